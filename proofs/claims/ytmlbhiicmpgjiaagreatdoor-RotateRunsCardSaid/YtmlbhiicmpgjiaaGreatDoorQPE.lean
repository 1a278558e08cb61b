/- Turning words. A block's words. A block's words: the document. The last bytes, filled up. The last bytes, filled up: the document. A block is added. A sum's bytes. The document's constants. The sum of bytes. -/
import Derived.Test.YtmlbhiicmpgjiaaGreatDoorQPB
import Derived.Test.YtmlbhiicmpgjiaaGreatDoorQPD
set_option linter.unusedSimpArgs false
set_option linter.unusedVariables false
set_option maxRecDepth 10000
namespace Go.Proofs.YtmlbhiicmpgjiaaGreatDoor
open Go.RowKit
theorem wf4 (n:Int) (h1:1≤n) (h2:n≤31):(-n % 18446744073709551616).toNat &&& 31=32-n.toNat:=by
 have:(-n % 18446744073709551616).toNat=18446744073709551616-n.toNat:=by omega
 rw [this]
 have key:∀m,m≤31→1≤m→(18446744073709551616-m) &&& 31=32-m:=by decide
 exact key _ (by omega) (by omega)
set_option maxHeartbeats 400000 in
theorem kg3 (x:UInt32) (n:Int) (h1:1≤n) (h2:n≤31):PC (ja9 Tryz.prog) 122 [u32D x,iD (0-n)] (u32D (ror x n.toNat)):=by
 have hs:=wf4 n h1 h2
 have hz:0-n = -n:=by omega
 rw [hz]
 have hX:=and_true;refine ju8 Tryz.func122 rfl Tryz.ntmps122 Tryz.results122 rfl rfl (by exact dz8) ?_;intro w0 A
 refine jb3 ?_;(repeat refine jb3 ?_);refine jc3 ?_;(repeat (first|(refine jc4 _ rfl rfl rfl ?_)|(refine jb6 _ (envC _ _ _ _ _) rfl rfl rfl rfl rfl ?_ (hc:=by first|fail))|(refine ja3 rfl (jb5 rfl rfl rfl) ?_)|(refine ja3 rfl (jb8 rfl rfl) ?_)|(refine ja3 rfl (jb1 rfl rfl) ?_)|(refine jc5 rfl rfl ?_)|(refine jb7 rfl rfl rfl rfl ?_)|(refine jb9 _ rfl rfl rfl rfl ?_)|(refine jc6 _ rfl rfl rfl ?_)));(refine ja1 ?_;refine jb0 [0,1] ?_)
 refine jb3 ?_;(repeat refine jb3 ?_);refine jc3 ?_;(repeat (first|(refine jc4 _ rfl rfl rfl ?_)|(refine jb6 _ (envC _ _ _ _ _) rfl rfl rfl rfl rfl ?_ (hc:=by first|fail))|(refine ja3 rfl (jb5 rfl rfl rfl) ?_)|(refine ja3 rfl (jb8 rfl rfl) ?_)|(refine ja3 rfl (jb1 rfl rfl) ?_)|(refine jc5 rfl rfl ?_)|(refine jb7 rfl rfl rfl rfl ?_)|(refine jb9 _ rfl rfl rfl rfl ?_)|(refine jc6 _ rfl rfl rfl ?_)));(refine ja1 ?_;refine jb0 [0,5] ?_)
 rw [hs]
 have hb1:(x.toNat:Int)*2 ^ (32-n.toNat) % 4294967296=((x <<< UInt32.ofNat (32-n.toNat)).toNat:Int):=jf0 x _ (by omega)
 have hb2:(x.toNat:Int) / 2 ^ ((32-((32-n.toNat:Nat):Int)) % 18446744073709551616).toNat=((x >>> UInt32.ofNat n.toNat).toNat:Int):=by
  rw [show ((32-((32-n.toNat:Nat):Int)) % 18446744073709551616).toNat=n.toNat by omega]
  exact je4 x _ (by omega)
 have hX:=And.intro hb1 (hb2)
 refine jb3 ?_;(repeat refine jb3 ?_);refine jc3 ?_;(repeat (first|(refine jc4 _ rfl rfl rfl ?_)|(refine jb6 _ (envC _ _ _ _ _) rfl rfl rfl rfl rfl ?_ (hc:=by first|fail))|(refine ja3 rfl (jb5 rfl rfl rfl) ?_)|(refine ja3 rfl (jb8 rfl rfl) ?_)|(refine ja3 rfl (jb1 rfl rfl) ?_)|(refine jc5 rfl rfl ?_)|(refine jb7 rfl rfl rfl rfl ?_)|(refine jb9 _ rfl rfl rfl rfl ?_)|(refine jc6 _ rfl rfl rfl ?_)));(refine ja1 ?_;refine jb0 [4] ?_)
 have hX:=and_true
 refine jq5 ?_;refine ⟨_,_,by exact dz9,?_,?_⟩
 ·trivial
 ·rw [show (x <<< UInt32.ofNat (32-n.toNat)) ||| (x >>> UInt32.ofNat n.toNat)=ror x n.toNat from UInt32.or_comm _ _];exact ja2 rfl
set_option maxHeartbeats 400000 in
theorem jg3 (x:UInt32) (n:Int) (h1:1≤n) (h2:n≤31):PC (ja9 Tryz.prog) 105 [u32D x,iD n] (u32D (ror x n.toNat)):=by
 have hX:=and_true;refine ju8 Tryz.func105 rfl Tryz.ntmps105 Tryz.results105 rfl rfl (by exact dz8) ?_;intro w0 A
 refine jb3 ?_;(repeat refine jb3 ?_);refine jc3 ?_;(repeat (first|(refine jc4 _ rfl rfl rfl ?_)|(refine jb6 _ (envC _ _ _ _ _) rfl rfl rfl rfl rfl ?_ (hc:=by first|fail))|(refine ja3 rfl (jb5 rfl rfl rfl) ?_)|(refine ja3 rfl (jb8 rfl rfl) ?_)|(refine ja3 rfl (jb1 rfl rfl) ?_)|(refine jc5 rfl rfl ?_)|(refine jb7 rfl rfl rfl rfl ?_)|(refine jb9 _ rfl rfl rfl rfl ?_)|(refine jc6 _ rfl rfl rfl ?_)));(refine ja1 ?_;refine jb0 [0,1] ?_)
 refine jb3 ?_;(repeat refine jb3 ?_);refine jc3 ?_;(repeat (first|(refine jc4 _ rfl rfl rfl ?_)|(refine jb6 _ (envC _ _ _ _ _) rfl rfl rfl rfl rfl ?_ (hc:=by first|exact kg3 _ _ (by omega) (by omega)))|(refine ja3 rfl (jb5 rfl rfl rfl) ?_)|(refine ja3 rfl (jb8 rfl rfl) ?_)|(refine ja3 rfl (jb1 rfl rfl) ?_)|(refine jc5 rfl rfl ?_)|(refine jb7 rfl rfl rfl rfl ?_)|(refine jb9 _ rfl rfl rfl rfl ?_)|(refine jc6 _ rfl rfl rfl ?_)));(refine ja1 ?_;refine jb0 [4] ?_)
 refine jq5 ?_;refine ⟨_,_,by exact dz9,?_,?_⟩
 ·trivial
 ·refine (ja2 rfl)
set_option maxHeartbeats 400000 in
theorem jd8 (x:UInt32) (n:Int) (h1:1≤n) (h2:n≤31):PC (ja9 Tryz.prog) 115 [u32D x,iD n] (u32D (ror x n.toNat)):=by
 have hX:=and_true;refine ju8 Tryz.func115 rfl Tryz.ntmps115 Tryz.results115 rfl rfl (by exact dz8) ?_;intro w0 A
 have hb1:(x.toNat:Int)*2 ^ (32-n).toNat % 4294967296=((x <<< UInt32.ofNat (32-n.toNat)).toNat:Int):=by
  rw [show (32-n).toNat=32-n.toNat by omega]
  exact jf0 x _ (by omega)
 have hb2:(x.toNat:Int) / 2 ^ n.toNat=((x >>> UInt32.ofNat n.toNat).toNat:Int):=je4 x _ (by omega)
 have hX:=And.intro hb1 (hb2)
 refine jb3 ?_;(repeat refine jb3 ?_);refine jc3 ?_;(repeat (first|(refine jc4 _ rfl rfl rfl ?_)|(refine jb6 _ (envC _ _ _ _ _) rfl rfl rfl rfl rfl ?_ (hc:=by first|exact kg3 _ _ (by omega) (by omega)))|(refine ja3 rfl (jb5 rfl rfl rfl) ?_)|(refine ja3 rfl (jb8 rfl rfl) ?_)|(refine ja3 rfl (jb1 rfl rfl) ?_)|(refine jc5 rfl rfl ?_)|(refine jb7 rfl rfl rfl rfl ?_)|(refine jb9 _ rfl rfl rfl rfl ?_)|(refine jc6 _ rfl rfl rfl ?_)));(refine ja1 ?_;refine jb0 [0,1] ?_)
 refine jb3 ?_;(repeat refine jb3 ?_);refine jq4 8 (by kernel_rfl) ?_;simp only [List.take,List.drop];(repeat (first|(refine jn9 _ rfl rfl rfl ?_)|(refine jj4 _ (envC _ _ _ _ _) rfl rfl rfl rfl rfl ?_ (hc:=by first|exact kg3 _ _ (by omega) (by omega)))|(refine jn8 rfl rfl ?_)|(refine jj5 rfl rfl rfl rfl ?_)|(refine jj9 _ rfl rfl rfl rfl ?_)|(refine jo0 _ rfl rfl rfl ?_)));refine jd7 ?_;(repeat (first|(refine jc4 _ rfl rfl rfl ?_)|(refine jb6 _ (envC _ _ _ _ _) rfl rfl rfl rfl rfl ?_ (hc:=by first|exact kg3 _ _ (by omega) (by omega)))|(refine ja3 rfl (jb5 rfl rfl rfl) ?_)|(refine ja3 rfl (jb8 rfl rfl) ?_)|(refine ja3 rfl (jb1 rfl rfl) ?_)|(refine jc5 rfl rfl ?_)|(refine jb7 rfl rfl rfl rfl ?_)|(refine jb9 _ rfl rfl rfl rfl ?_)|(refine jc6 _ rfl rfl rfl ?_)));(refine ja1 ?_;refine jb0 [4] ?_)
 refine jq5 ?_;refine ⟨_,_,by exact dz9,?_,?_⟩
 ·trivial
 ·refine (ja2 rfl)
set_option maxHeartbeats 400000 in
theorem ji1 (x:UInt32) (n:Int) (h1:1≤n) (h2:n≤31):PC (ja9 Tryz.prog) 124 [u32D x,iD n] (u32D (x >>> UInt32.ofNat n.toNat)):=by
 have hX:=and_true;refine ju8 Tryz.func124 rfl Tryz.ntmps124 Tryz.results124 rfl rfl (by exact dz8) ?_;intro w0 A
 have hb2:(x.toNat:Int) / 2 ^ n.toNat=((x >>> UInt32.ofNat n.toNat).toNat:Int):=je4 x _ (by omega)
 have hX:=hb2
 refine jb3 ?_;(repeat refine jb3 ?_);refine jc3 ?_;(repeat (first|(refine jc4 _ rfl rfl rfl ?_)|(refine jb6 _ (envC _ _ _ _ _) rfl rfl rfl rfl rfl ?_ (hc:=by first|exact kg3 _ _ (by omega) (by omega)))|(refine ja3 rfl (jb5 rfl rfl rfl) ?_)|(refine ja3 rfl (jb8 rfl rfl) ?_)|(refine ja3 rfl (jb1 rfl rfl) ?_)|(refine jc5 rfl rfl ?_)|(refine jb7 rfl rfl rfl rfl ?_)|(refine jb9 _ rfl rfl rfl rfl ?_)|(refine jc6 _ rfl rfl rfl ?_)));(refine ja1 ?_;refine jb0 [0,1] ?_)
 refine jb3 ?_;(repeat refine jb3 ?_);refine jc3 ?_;(repeat (first|(refine jc4 _ rfl rfl rfl ?_)|(refine jb6 _ (envC _ _ _ _ _) rfl rfl rfl rfl rfl ?_ (hc:=by first|exact kg3 _ _ (by omega) (by omega)))|(refine ja3 rfl (jb5 rfl rfl rfl) ?_)|(refine ja3 rfl (jb8 rfl rfl) ?_)|(refine ja3 rfl (jb1 rfl rfl) ?_)|(refine jc5 rfl rfl ?_)|(refine jb7 rfl rfl rfl rfl ?_)|(refine jb9 _ rfl rfl rfl rfl ?_)|(refine jc6 _ rfl rfl rfl ?_)));(refine ja1 ?_;refine jb0 [4] ?_)
 refine jq5 ?_;refine ⟨_,_,by exact dz9,?_,?_⟩
 ·trivial
 ·refine (ja2 rfl)
def be (l:List UInt8) (t:Nat):UInt32:=(l.getD (4*t) 0).toUInt32 <<< UInt32.ofNat 24 ||| (l.getD (4*t+1) 0).toUInt32 <<< UInt32.ofNat 16 ||| (l.getD (4*t+2) 0).toUInt32 <<< UInt32.ofNat 8 ||| (l.getD (4*t+3) 0).toUInt32
def sg0 (x:UInt32):UInt32:=ror x 7 ^^^ ror x 18 ^^^ x >>> UInt32.ofNat 3
def sg1 (x:UInt32):UInt32:=ror x 17 ^^^ ror x 19 ^^^ x >>> UInt32.ofNat 10
def W (l:List UInt8) (t:Nat):UInt32 :=
 if t<16 then be l t else W l (t-16)+sg0 (W l (t-15))+W l (t-7)+sg1 (W l (t-2))
termination_by t
decreasing_by all_goals omega
def Wf (l:List UInt8) (t:Nat):Nat→Int:=fun j=>if j<t then ((W l j).toNat:Int) else 0
theorem jy1 {l:List UInt8}{t j:Nat} (h:j<t):Wf l t j=((W l j).toNat:Int):=if_pos h
theorem kn1 (l:List UInt8) (t:Nat):updI (Wf l t) t ((W l t).toNat:Int)=Wf l (t+1):=by
 funext j
 unfold updI Wf
 by_cases h1:j=t
 ·subst h1;simp
 ·by_cases h2:j<t
  ·rw [if_neg h1,if_pos h2,if_pos (by omega)]
  ·rw [if_neg h1,if_neg h2,if_neg (by omega)]
theorem W_lo {l:List UInt8}{t:Nat} (h:t<16):W l t=be l t:=by rw [W,if_pos h]
theorem W_hi {l:List UInt8}{t:Nat} (h:¬t<16):W l t=W l (t-16)+sg0 (W l (t-15))+W l (t-7)+sg1 (W l (t-2)):=by rw [W,if_neg h]
theorem qq5 (l:List UInt8):Wf l 0=fun _=>0:=by funext j;simp [Wf]
def jn3 (l:List UInt8):D:=.sl l 0 jc0
theorem jh3 (l:List UInt8):jn3 l = .sl l 0 jc0:=rfl
def km4 (l:List UInt8):D:=.arr .u32 64 (fun j=>((W l j).toNat:Int))
theorem jp8 (l:List UInt8):km4 l = .arr .u32 64 (fun j=>((W l j).toNat:Int)):=rfl

set_option maxHeartbeats 4000000 in
theorem jj2 (l:List UInt8) (hl:l.length=64):PC (ja9 Tryz.prog) 104 [jn3 l] (km4 l):=by
 have hX:=and_true;refine ju8 Tryz.func104 rfl Tryz.ntmps104 Tryz.results104 rfl rfl (by exact dz8) ?_;intro w0 A
 have hX:=jh3
 (repeat refine jb3 ?_);refine jc3 ?_;(repeat (first|(refine jc4 _ rfl rfl rfl ?_)|(refine jb6 _ (envC _ _ _ _ _) rfl rfl rfl rfl rfl ?_ (hc:=by first|exact jg3 _ _ (by omega) (by omega)))|(refine ja3 rfl (jb5 rfl rfl rfl) ?_)|(refine ja3 rfl (jb8 rfl rfl) ?_)|(refine ja3 rfl (jb1 rfl rfl) ?_)|(refine jc5 rfl rfl ?_)|(refine jb7 rfl rfl rfl rfl ?_)|(refine jb9 _ rfl rfl rfl rfl ?_)|(refine jc6 _ rfl rfl rfl ?_)));(refine ja1 ?_;refine jb0 [0,2] ?_)
 (repeat refine jb3 ?_);refine jc3 ?_;(repeat (first|(refine jc4 _ rfl rfl rfl ?_)|(refine jb6 _ (envC _ _ _ _ _) rfl rfl rfl rfl rfl ?_ (hc:=by first|exact jg3 _ _ (by omega) (by omega)))|(refine ja3 rfl (jb5 rfl rfl rfl) ?_)|(refine ja3 rfl (jb8 rfl rfl) ?_)|(refine ja3 rfl (jb1 rfl rfl) ?_)|(refine jc5 rfl rfl ?_)|(refine jb7 rfl rfl rfl rfl ?_)|(refine jb9 _ rfl rfl rfl rfl ?_)|(refine jc6 _ rfl rfl rfl ?_)));(refine ja1 ?_;refine jb0 [0,2,3] ?_)
 (repeat refine jb3 ?_);refine jc3 ?_;(repeat (first|(refine jc4 _ rfl rfl rfl ?_)|(refine jb6 _ (envC _ _ _ _ _) rfl rfl rfl rfl rfl ?_ (hc:=by first|exact jg3 _ _ (by omega) (by omega)))|(refine ja3 rfl (jb5 rfl rfl rfl) ?_)|(refine ja3 rfl (jb8 rfl rfl) ?_)|(refine ja3 rfl (jb1 rfl rfl) ?_)|(refine jc5 rfl rfl ?_)|(refine jb7 rfl rfl rfl rfl ?_)|(refine jb9 _ rfl rfl rfl rfl ?_)|(refine jc6 _ rfl rfl rfl ?_)));(refine ja1 ?_;refine jb0 [0,2,3,10] ?_)
 (repeat refine jb3 ?_);refine jf4 ?_
 refine jn0 (fun m st=>∃t,t+m=16∧st=mk [(0,jn3 l),(2,.ptr 0 0),(3,.ptr 1 0),(10,iD (t:Int))] [some (.one (.arr .u32 64 (fun _=>0))),some (.one (.arr .u32 64 (Wf l t)))]) 16 ⟨_,Weak.refl _ _,0,by omega,?_⟩ ?_
 ·simp [iD,jn3,qq5]
 rintro m _ ⟨t,ht,rfl⟩
 (repeat refine jb3 ?_);refine jc3 ?_;(repeat (first|(refine jc4 _ rfl rfl rfl ?_)|(refine jb6 _ (envC _ _ _ _ _) rfl rfl rfl rfl rfl ?_ (hc:=by first|exact jg3 _ _ (by omega) (by omega)))|(refine ja3 rfl (jb5 rfl rfl rfl) ?_)|(refine ja3 rfl (jb8 rfl rfl) ?_)|(refine ja3 rfl (jb1 rfl rfl) ?_)|(refine jc5 rfl rfl ?_)|(refine jb7 rfl rfl rfl rfl ?_)|(refine jb9 _ rfl rfl rfl rfl ?_)|(refine jc6 _ rfl rfl rfl ?_)));(refine ja1 ?_;refine jb0 [0,2,3,10,11] ?_)
 (repeat refine jb3 ?_);refine jm8 (by simp only [evD,mk,look,reduceIte,Nat.reduceEqDiff];exact rfl) ?_ ?_
 ·intro hc
  have htl:t<16:=by have:=of_decide_eq_true hc;omega
  refine jn1 ?_
  refine qq0 [0,2,3,10] (by simp only [pick,kil,jc0,implies_true,setD,bslF,jf8,je6,List.zip_cons_cons,List.zip_nil_right,List.zip_nil_left,jc1,rng0,rng1,rng2,rng3,rng4,rng5,rng6,rng7,rng8,List.getD_cons_zero,List.getD_cons_succ,Nat.reduceLeDiff,decide_true,decide_false,List.all_cons,List.all_nil,dqF,nilF,jh9,jc7,Op.operands,Call.operands,evD,cD,gip,upd,look,List.map,List.map_cons,List.map_nil,binF,binI,shI,binS,unF,wD,kLo,kHi,kMod,jh8,jh1,jh2,jg0,jf9,jg2,jg1,lenF,lenD,jf2,je9,minF,je7,cutL,bndF,sub,nc,aggT,aggB,scB,tnth,elems,L_B,L_mk,List.getElem?_cons_zero,List.getElem?_cons_succ,reduceIte,reduceCtorEq,Option.isSome,List.toList_toArray,Nat.reduceAdd,Nat.reduceSub,Nat.reduceMul,Nat.reduceEqDiff,Nat.reduceLT,Nat.reduceBEq,mkF,mkG,Bool.and_true,Bool.true_and,Bool.and_false,Bool.false_and,beq_self_eq_true,mkC,Int.reduceToNat,Int.toNat_natCast,Int.reduceAdd,Int.reduceSub,Int.reduceMul,Nat.zero_add,Nat.add_zero,Nat.mul_one,and_true,true_and,Option.getD_some,Option.getD_none,u32D,u8D,iD,bD,strD,jf7,jh5,jf5,jf3,jf6,je4,jf0,jh6,jg9,hX];exact rfl) ?_
  refine jb3 ?_
  refine jf4 ?_
  (repeat refine jb3 ?_);refine jc3 ?_;(repeat (first|(refine jc4 _ rfl rfl rfl ?_)|(refine jb6 _ (envC _ _ _ _ _) rfl rfl rfl rfl rfl ?_ (hc:=by first|exact jg3 _ _ (by omega) (by omega)))|(refine ja3 rfl (jb5 rfl rfl rfl) ?_)|(refine ja3 rfl (jb8 rfl rfl) ?_)|(refine ja3 rfl (jb1 rfl rfl) ?_)|(refine jc5 rfl rfl ?_)|(refine jb7 rfl rfl rfl rfl ?_)|(refine jb9 _ rfl rfl rfl rfl ?_)|(refine jc6 _ rfl rfl rfl ?_)));(refine ja1 ?_;refine jb0 [0,2,3,4,10] ?_)
  have e0:(4*(t:Int)).toNat=4*t:=by omega
  have e1:(4*(t:Int)+1).toNat=4*t+1:=by omega
  have e2:(4*(t:Int)+2).toNat=4*t+2:=by omega
  have e3:(4*(t:Int)+3).toNat=4*t+3:=by omega
  have hX:=And.intro e0 (And.intro e1 (And.intro e2 (And.intro e3 (jh3))))
  (repeat refine jb3 ?_);refine jq4 35 (by kernel_rfl) ?_;simp only [List.take,List.drop];(repeat (first|(refine jn9 _ rfl rfl rfl ?_)|(refine jj4 _ (envC _ _ _ _ _) rfl rfl rfl rfl rfl ?_ (hc:=by first|exact jg3 _ _ (by omega) (by omega)))|(refine jn8 rfl rfl ?_)|(refine jj5 rfl rfl rfl rfl ?_)|(refine jj9 _ rfl rfl rfl rfl ?_)|(refine jo0 _ rfl rfl rfl ?_)));refine jd7 ?_;(repeat (first|(refine jc4 _ rfl rfl rfl ?_)|(refine jb6 _ (envC _ _ _ _ _) rfl rfl rfl rfl rfl ?_ (hc:=by first|exact jg3 _ _ (by omega) (by omega)))|(refine ja3 rfl (jb5 rfl rfl rfl) ?_)|(refine ja3 rfl (jb8 rfl rfl) ?_)|(refine ja3 rfl (jb1 rfl rfl) ?_)|(refine jc5 rfl rfl ?_)|(refine jb7 rfl rfl rfl rfl ?_)|(refine jb9 _ rfl rfl rfl rfl ?_)|(refine jc6 _ rfl rfl rfl ?_)));(refine ja1 ?_;refine jb0 [0,2,3,10] ?_)
  have hX:=And.intro and_true (jh3)
  refine jc3 ?_;(repeat (first|(refine jc4 _ rfl rfl rfl ?_)|(refine jb6 _ (envC _ _ _ _ _) rfl rfl rfl rfl rfl ?_ (hc:=by first|exact jg3 _ _ (by omega) (by omega)))|(refine ja3 rfl (jb5 rfl rfl rfl) ?_)|(refine ja3 rfl (jb8 rfl rfl) ?_)|(refine ja3 rfl (jb1 rfl rfl) ?_)|(refine jc5 rfl rfl ?_)|(refine jb7 rfl rfl rfl rfl ?_)|(refine jb9 _ rfl rfl rfl rfl ?_)|(refine jc6 _ rfl rfl rfl ?_)));refine ja1 ?_
  refine ⟨_,m-1,Weak.pick [0,2,3,10],by omega,t+1,by omega,?_⟩
  refine pk1 ?_
  rw [← kn1,W_lo htl]
  rfl
 ·intro hc
  have htl:t=16:=by have:=of_decide_eq_false hc;omega
  subst htl
  refine jm9 ?_
  refine jb0 [2,3] ?_
  (repeat refine jb3 ?_);refine jc3 ?_;(repeat (first|(refine jc4 _ rfl rfl rfl ?_)|(refine jb6 _ (envC _ _ _ _ _) rfl rfl rfl rfl rfl ?_ (hc:=by first|exact jg3 _ _ (by omega) (by omega)))|(refine ja3 rfl (jb5 rfl rfl rfl) ?_)|(refine ja3 rfl (jb8 rfl rfl) ?_)|(refine ja3 rfl (jb1 rfl rfl) ?_)|(refine jc5 rfl rfl ?_)|(refine jb7 rfl rfl rfl rfl ?_)|(refine jb9 _ rfl rfl rfl rfl ?_)|(refine jc6 _ rfl rfl rfl ?_)));(refine ja1 ?_;refine jb0 [2,3,5] ?_)
  (repeat refine jb3 ?_);refine jf4 ?_
  refine jn0 (fun m st=>∃t,t+m=64∧16≤t∧st=mk [(2,.ptr 0 0),(3,.ptr 1 0),(5,iD (t:Int))] [some (.one (.arr .u32 64 (fun _=>0))),some (.one (.arr .u32 64 (Wf l t)))]) 48 ⟨_,Weak.refl _ _,16,by omega,by omega,?_⟩ ?_
  ·simp [iD]
  clear m ht hc
  rintro m _ ⟨t,ht,ht16,rfl⟩
  (repeat refine jb3 ?_);refine jc3 ?_;(repeat (first|(refine jc4 _ rfl rfl rfl ?_)|(refine jb6 _ (envC _ _ _ _ _) rfl rfl rfl rfl rfl ?_ (hc:=by first|exact jg3 _ _ (by omega) (by omega)))|(refine ja3 rfl (jb5 rfl rfl rfl) ?_)|(refine ja3 rfl (jb8 rfl rfl) ?_)|(refine ja3 rfl (jb1 rfl rfl) ?_)|(refine jc5 rfl rfl ?_)|(refine jb7 rfl rfl rfl rfl ?_)|(refine jb9 _ rfl rfl rfl rfl ?_)|(refine jc6 _ rfl rfl rfl ?_)));(refine ja1 ?_;refine jb0 [2,3,5,50] ?_)
  (repeat refine jb3 ?_);refine jm8 (by simp only [evD,mk,look,reduceIte,Nat.reduceEqDiff];exact rfl) ?_ ?_
  ·intro hc
   have htl:t<64:=by have:=of_decide_eq_true hc;omega
   refine jn1 ?_
   refine jb0 [2,3,5] ?_
   refine jb3 ?_
   refine jf4 ?_
   have e15:((t:Int)-15).toNat=t-15:=by omega
   have e2:((t:Int)-2).toNat=t-2:=by omega
   have e16:((t:Int)-16).toNat=t-16:=by omega
   have e7:((t:Int)-7).toNat=t-7:=by omega
   have f15:Wf l t (t-15)=((W l (t-15)).toNat:Int):=jy1 (by omega)
   have f2:Wf l t (t-2)=((W l (t-2)).toNat:Int):=jy1 (by omega)
   have f16:Wf l t (t-16)=((W l (t-16)).toNat:Int):=jy1 (by omega)
   have f7:Wf l t (t-7)=((W l (t-7)).toNat:Int):=jy1 (by omega)
   have hX:=And.intro e15 (And.intro e2 (And.intro e16 (And.intro e7 (And.intro f15 (And.intro f2 (And.intro f16 (And.intro f7 (jh3))))))))
   (repeat refine jb3 ?_);(repeat refine jb3 ?_);refine kw3 (by kernel_rfl) ?_;(repeat (first|(refine jn9 _ rfl rfl rfl ?_)|(refine jj4 _ (envC _ _ _ _ _) rfl rfl rfl rfl rfl ?_ (hc:=by first|exact jg3 _ _ (by omega) (by omega)))|(refine jn8 rfl rfl ?_)|(refine jj5 rfl rfl rfl rfl ?_)|(refine jj9 _ rfl rfl rfl rfl ?_)|(refine jo0 _ rfl rfl rfl ?_)));refine jd7 ?_;refine jb0 [2,3,5,6,7] ?_
   (repeat refine jb3 ?_);refine jc3 ?_;(repeat (first|(refine jc4 _ rfl rfl rfl ?_)|(refine jb6 _ (envC _ _ _ _ _) rfl rfl rfl rfl rfl ?_ (hc:=by first|exact jg3 _ _ (by omega) (by omega)))|(refine ja3 rfl (jb5 rfl rfl rfl) ?_)|(refine ja3 rfl (jb8 rfl rfl) ?_)|(refine ja3 rfl (jb1 rfl rfl) ?_)|(refine jc5 rfl rfl ?_)|(refine jb7 rfl rfl rfl rfl ?_)|(refine jb9 _ rfl rfl rfl rfl ?_)|(refine jc6 _ rfl rfl rfl ?_)));(refine ja1 ?_;refine jb0 [2,3,5,7,8] ?_)
   (repeat refine jb3 ?_);refine jc3 ?_;(repeat (first|(refine jc4 _ rfl rfl rfl ?_)|(refine jb6 _ (envC _ _ _ _ _) rfl rfl rfl rfl rfl ?_ (hc:=by first|exact jg3 _ _ (by omega) (by omega)))|(refine ja3 rfl (jb5 rfl rfl rfl) ?_)|(refine ja3 rfl (jb8 rfl rfl) ?_)|(refine ja3 rfl (jb1 rfl rfl) ?_)|(refine jc5 rfl rfl ?_)|(refine jb7 rfl rfl rfl rfl ?_)|(refine jb9 _ rfl rfl rfl rfl ?_)|(refine jc6 _ rfl rfl rfl ?_)));(refine ja1 ?_;refine jb0 [2,3,5,8,9] ?_)
   (repeat refine jb3 ?_);refine jq4 15 (by kernel_rfl) ?_;simp only [List.take,List.drop];(repeat (first|(refine jn9 _ rfl rfl rfl ?_)|(refine jj4 _ (envC _ _ _ _ _) rfl rfl rfl rfl rfl ?_ (hc:=by first|exact jg3 _ _ (by omega) (by omega)))|(refine jn8 rfl rfl ?_)|(refine jj5 rfl rfl rfl rfl ?_)|(refine jj9 _ rfl rfl rfl rfl ?_)|(refine jo0 _ rfl rfl rfl ?_)));refine jd7 ?_;(repeat (first|(refine jc4 _ rfl rfl rfl ?_)|(refine jb6 _ (envC _ _ _ _ _) rfl rfl rfl rfl rfl ?_ (hc:=by first|exact jg3 _ _ (by omega) (by omega)))|(refine ja3 rfl (jb5 rfl rfl rfl) ?_)|(refine ja3 rfl (jb8 rfl rfl) ?_)|(refine ja3 rfl (jb1 rfl rfl) ?_)|(refine jc5 rfl rfl ?_)|(refine jb7 rfl rfl rfl rfl ?_)|(refine jb9 _ rfl rfl rfl rfl ?_)|(refine jc6 _ rfl rfl rfl ?_)));(refine ja1 ?_;refine jb0 [2,3,5] ?_)
   have hX:=And.intro and_true (jh3)
   refine jc3 ?_;(repeat (first|(refine jc4 _ rfl rfl rfl ?_)|(refine jb6 _ (envC _ _ _ _ _) rfl rfl rfl rfl rfl ?_ (hc:=by first|exact jg3 _ _ (by omega) (by omega)))|(refine ja3 rfl (jb5 rfl rfl rfl) ?_)|(refine ja3 rfl (jb8 rfl rfl) ?_)|(refine ja3 rfl (jb1 rfl rfl) ?_)|(refine jc5 rfl rfl ?_)|(refine jb7 rfl rfl rfl rfl ?_)|(refine jb9 _ rfl rfl rfl rfl ?_)|(refine jc6 _ rfl rfl rfl ?_)));refine ja1 ?_
   refine ⟨_,m-1,Weak.pick [2,3,5],by omega,t+1,by omega,by omega,?_⟩
   refine pk1 ?_
   have hW:=W_hi (l:=l) (t:=t) (by omega)
   rw [← kn1 l t,hW]
   rfl
  ·intro hc
   have htl:t=64:=by have:=of_decide_eq_false hc;omega
   subst htl
   refine jm9 ?_
   refine jb0 [2,3] ?_
   (repeat refine jb3 ?_);refine jc3 ?_;(repeat (first|(refine jc4 _ rfl rfl rfl ?_)|(refine jb6 _ (envC _ _ _ _ _) rfl rfl rfl rfl rfl ?_ (hc:=by first|exact jg3 _ _ (by omega) (by omega)))|(refine ja3 rfl (jb5 rfl rfl rfl) ?_)|(refine ja3 rfl (jb8 rfl rfl) ?_)|(refine ja3 rfl (jb1 rfl rfl) ?_)|(refine jc5 rfl rfl ?_)|(refine jb7 rfl rfl rfl rfl ?_)|(refine jb9 _ rfl rfl rfl rfl ?_)|(refine jc6 _ rfl rfl rfl ?_)));(refine ja1 ?_;refine jb0 [2] ?_)
   refine jq5 ?_;refine ⟨_,_,by exact dz9,?_,?_⟩
   ·trivial
   ·exact km8 fun i hi=>jy1 hi
def acc (l:List UInt8) (t:Nat):Nat→UInt32
 | 0=>0
 | i+1=>acc l t i*256+(l.getD (4*t+i) 0).toUInt32
theorem qy1 (a:UInt32):(a.toNat:Int)*256 % 4294967296=((a*256).toNat:Int):=by
 rw [UInt32.toNat_mul]
 have:(256:UInt32).toNat=256:=rfl
 rw [this]
 omega
theorem vo2 (a:UInt32) (b:UInt8):((a.toNat:Int)+(b.toUInt32.toNat:Int)) % 4294967296=((a+b.toUInt32).toNat:Int):=jf3 a _
theorem qj6 (a b:Nat) (i:Nat) (h:b<2 ^ i):a <<< i ||| b=a*2 ^ i+b:=by
 rw [← Nat.shiftLeft_add_eq_or_of_lt h,Nat.shiftLeft_eq]
theorem wa8 (l:List UInt8) (t:Nat):acc l t 4=be l t:=by
 have key:∀(a b c d:UInt8),((((0:UInt32)*256+a.toUInt32)*256+b.toUInt32)*256+c.toUInt32)*256+d.toUInt32=a.toUInt32 <<< UInt32.ofNat 24 ||| b.toUInt32 <<< UInt32.ofNat 16 ||| c.toUInt32 <<< UInt32.ofNat 8 ||| d.toUInt32:=by
  intro a b c d
  have ha:=a.toNat_lt
  have hb:=b.toNat_lt
  have hc:=c.toNat_lt
  have hd:=d.toNat_lt
  apply UInt32.toNat_inj.1
  simp only [UInt32.toNat_or,UInt32.toNat_shiftLeft,UInt32.toNat_add,UInt32.toNat_mul,UInt8.toNat_toUInt32]
  have e24:(UInt32.ofNat 24).toNat % 32=24:=rfl
  have e16:(UInt32.ofNat 16).toNat % 32=16:=rfl
  have e8:(UInt32.ofNat 8).toNat % 32=8:=rfl
  rw [e24,e16,e8]
  have m24:a.toNat <<< 24 % 2 ^ 32=a.toNat <<< 24:=Nat.mod_eq_of_lt (by rw [Nat.shiftLeft_eq];omega)
  have m16:b.toNat <<< 16 % 2 ^ 32=b.toNat <<< 16:=Nat.mod_eq_of_lt (by rw [Nat.shiftLeft_eq];omega)
  have m8:c.toNat <<< 8 % 2 ^ 32=c.toNat <<< 8:=Nat.mod_eq_of_lt (by rw [Nat.shiftLeft_eq];omega)
  rw [m24,m16,m8]
  have o1:a.toNat <<< 24 ||| b.toNat <<< 16=(a.toNat*256+b.toNat) <<< 16:=by
   rw [qj6 _ _ 24 (by rw [Nat.shiftLeft_eq];omega),Nat.shiftLeft_eq,Nat.shiftLeft_eq]
   omega
  have o2:(a.toNat*256+b.toNat) <<< 16 ||| c.toNat <<< 8=((a.toNat*256+b.toNat)*256+c.toNat) <<< 8:=by
   rw [qj6 _ _ 16 (by rw [Nat.shiftLeft_eq];omega),Nat.shiftLeft_eq,Nat.shiftLeft_eq]
   omega
  rw [o1,o2,qj6 _ _ 8 (by omega)]
  have z:(0:UInt32).toNat=0:=rfl
  have k:(256:UInt32).toNat=256:=rfl
  rw [z,k]
  omega
 simpa [acc,be] using key (l.getD (4*t) 0) (l.getD (4*t+1) 0) (l.getD (4*t+2) 0) (l.getD (4*t+3) 0)
def Wg (l:List UInt8) (t i:Nat):Nat→Int:=fun j=>if j=t then ((acc l t i).toNat:Int) else Wf l t j
theorem vt3 (l:List UInt8) (t:Nat):Wf l t=Wg l t 0:=by
 funext j
 unfold Wg Wf
 by_cases h:j=t
 ·subst h;simp [acc]
 ·rw [if_neg h]
theorem vt1 (l:List UInt8) (t:Nat) (h:t<16):Wg l t 4=Wf l (t+1):=by
 rw [← kn1,W_lo h,← wa8]
 rfl
theorem vt2 (l:List UInt8) (t i:Nat):updI (Wg l t i) t ((acc l t (i+1)).toNat:Int)=Wg l t (i+1):=by
 funext j
 unfold updI Wg
 by_cases h:j=t
 ·rw [if_pos h,if_pos h]
 ·rw [if_neg h,if_neg h,if_neg h]
theorem we0 (l:List UInt8) (t i:Nat):Wg l t i t=((acc l t i).toNat:Int):=if_pos rfl

set_option maxHeartbeats 4000000 in
theorem jv5 (l:List UInt8) (hl:l.length=64):PC (ja9 Tryz.prog) 114 [jn3 l] (km4 l):=by
 have hX:=and_true;refine ju8 Tryz.func114 rfl Tryz.ntmps114 Tryz.results114 rfl rfl (by exact dz8) ?_;intro w0 A
 have hX:=jh3
 (repeat refine jb3 ?_);refine jc3 ?_;(repeat (first|(refine jc4 _ rfl rfl rfl ?_)|(refine jb6 _ (envC _ _ _ _ _) rfl rfl rfl rfl rfl ?_ (hc:=by first|exact jd8 _ _ (by omega) (by omega)|exact ji1 _ _ (by omega) (by omega)))|(refine ja3 rfl (jb5 rfl rfl rfl) ?_)|(refine ja3 rfl (jb8 rfl rfl) ?_)|(refine ja3 rfl (jb1 rfl rfl) ?_)|(refine jc5 rfl rfl ?_)|(refine jb7 rfl rfl rfl rfl ?_)|(refine jb9 _ rfl rfl rfl rfl ?_)|(refine jc6 _ rfl rfl rfl ?_)));(refine ja1 ?_;refine jb0 [0,2] ?_)
 (repeat refine jb3 ?_);refine jc3 ?_;(repeat (first|(refine jc4 _ rfl rfl rfl ?_)|(refine jb6 _ (envC _ _ _ _ _) rfl rfl rfl rfl rfl ?_ (hc:=by first|exact jd8 _ _ (by omega) (by omega)|exact ji1 _ _ (by omega) (by omega)))|(refine ja3 rfl (jb5 rfl rfl rfl) ?_)|(refine ja3 rfl (jb8 rfl rfl) ?_)|(refine ja3 rfl (jb1 rfl rfl) ?_)|(refine jc5 rfl rfl ?_)|(refine jb7 rfl rfl rfl rfl ?_)|(refine jb9 _ rfl rfl rfl rfl ?_)|(refine jc6 _ rfl rfl rfl ?_)));(refine ja1 ?_;refine jb0 [0,2,3] ?_)
 (repeat refine jb3 ?_);refine jc3 ?_;(repeat (first|(refine jc4 _ rfl rfl rfl ?_)|(refine jb6 _ (envC _ _ _ _ _) rfl rfl rfl rfl rfl ?_ (hc:=by first|exact jd8 _ _ (by omega) (by omega)|exact ji1 _ _ (by omega) (by omega)))|(refine ja3 rfl (jb5 rfl rfl rfl) ?_)|(refine ja3 rfl (jb8 rfl rfl) ?_)|(refine ja3 rfl (jb1 rfl rfl) ?_)|(refine jc5 rfl rfl ?_)|(refine jb7 rfl rfl rfl rfl ?_)|(refine jb9 _ rfl rfl rfl rfl ?_)|(refine jc6 _ rfl rfl rfl ?_)));(refine ja1 ?_;refine jb0 [0,2,3,4] ?_)
 (repeat refine jb3 ?_);refine jf4 ?_
 refine jn0 (fun m st=>∃t,t+m=16∧st=mk [(0,jn3 l),(2,.ptr 0 0),(3,.ptr 1 0),(4,iD (t:Int))] [some (.one (.arr .u32 64 (fun _=>0))),some (.one (.arr .u32 64 (Wf l t)))]) 16 ⟨_,Weak.refl _ _,0,by omega,?_⟩ ?_
 ·simp [iD,jn3,qq5]
 rintro m _ ⟨t,ht,rfl⟩
 (repeat refine jb3 ?_);refine jc3 ?_;(repeat (first|(refine jc4 _ rfl rfl rfl ?_)|(refine jb6 _ (envC _ _ _ _ _) rfl rfl rfl rfl rfl ?_ (hc:=by first|exact jd8 _ _ (by omega) (by omega)|exact ji1 _ _ (by omega) (by omega)))|(refine ja3 rfl (jb5 rfl rfl rfl) ?_)|(refine ja3 rfl (jb8 rfl rfl) ?_)|(refine ja3 rfl (jb1 rfl rfl) ?_)|(refine jc5 rfl rfl ?_)|(refine jb7 rfl rfl rfl rfl ?_)|(refine jb9 _ rfl rfl rfl rfl ?_)|(refine jc6 _ rfl rfl rfl ?_)));(refine ja1 ?_;refine jb0 [0,2,3,4,12] ?_)
 (repeat refine jb3 ?_);refine jm8 (by simp only [evD,mk,look,reduceIte,Nat.reduceEqDiff];exact rfl) ?_ ?_
 ·intro hc
  have htl:t<16:=by have:=of_decide_eq_true hc;omega
  refine jn1 ?_
  refine jb0 [0,2,3,4] ?_
  refine jb3 ?_
  refine jf4 ?_
  (repeat refine jb3 ?_);refine jc3 ?_;(repeat (first|(refine jc4 _ rfl rfl rfl ?_)|(refine jb6 _ (envC _ _ _ _ _) rfl rfl rfl rfl rfl ?_ (hc:=by first|exact jd8 _ _ (by omega) (by omega)|exact ji1 _ _ (by omega) (by omega)))|(refine ja3 rfl (jb5 rfl rfl rfl) ?_)|(refine ja3 rfl (jb8 rfl rfl) ?_)|(refine ja3 rfl (jb1 rfl rfl) ?_)|(refine jc5 rfl rfl ?_)|(refine jb7 rfl rfl rfl rfl ?_)|(refine jb9 _ rfl rfl rfl rfl ?_)|(refine jc6 _ rfl rfl rfl ?_)));(refine ja1 ?_;refine jb0 [0,2,3,4,5] ?_)
  refine jf4 ?_
  rw [vt3]
  refine jn0 (fun m' st=>∃i,i+m'=4∧st=mk [(0,jn3 l),(2,.ptr 0 0),(3,.ptr 1 0),(4,iD (t:Int)),(5,iD (i:Int))] [some (.one (.arr .u32 64 (fun _=>0))),some (.one (.arr .u32 64 (Wg l t i)))]) 4 ⟨_,Weak.refl _ _,0,by omega,?_⟩ ?_
  ·simp [iD,jn3]
  rintro m' _ ⟨i,hi,rfl⟩
  (repeat refine jb3 ?_);refine jc3 ?_;(repeat (first|(refine jc4 _ rfl rfl rfl ?_)|(refine jb6 _ (envC _ _ _ _ _) rfl rfl rfl rfl rfl ?_ (hc:=by first|exact jd8 _ _ (by omega) (by omega)|exact ji1 _ _ (by omega) (by omega)))|(refine ja3 rfl (jb5 rfl rfl rfl) ?_)|(refine ja3 rfl (jb8 rfl rfl) ?_)|(refine ja3 rfl (jb1 rfl rfl) ?_)|(refine jc5 rfl rfl ?_)|(refine jb7 rfl rfl rfl rfl ?_)|(refine jb9 _ rfl rfl rfl rfl ?_)|(refine jc6 _ rfl rfl rfl ?_)));(refine ja1 ?_;refine jb0 [0,2,3,4,5,16] ?_)
  (repeat refine jb3 ?_);refine jm8 (by simp only [evD,mk,look,reduceIte,Nat.reduceEqDiff];exact rfl) ?_ ?_
  ·intro hc2
   have hil:i<4:=by have:=of_decide_eq_true hc2;omega
   refine jn1 ?_
   refine jb0 [0,2,3,4,5] ?_
   refine jb3 ?_
   refine jf4 ?_
   have e0:(4*(t:Int)+(i:Int)).toNat=4*t+i:=by omega
   have f0:Wg l t i t=((acc l t i).toNat:Int):=we0 l t i
   have hX:=And.intro e0 (And.intro f0 (And.intro qy1 (And.intro vo2 (jh3))))
   (repeat refine jb3 ?_);refine jq4 15 (by kernel_rfl) ?_;simp only [List.take,List.drop];(repeat (first|(refine jn9 _ rfl rfl rfl ?_)|(refine jj4 _ (envC _ _ _ _ _) rfl rfl rfl rfl rfl ?_ (hc:=by first|exact jd8 _ _ (by omega) (by omega)|exact ji1 _ _ (by omega) (by omega)))|(refine jn8 rfl rfl ?_)|(refine jj5 rfl rfl rfl rfl ?_)|(refine jj9 _ rfl rfl rfl rfl ?_)|(refine jo0 _ rfl rfl rfl ?_)));refine jd7 ?_;(repeat (first|(refine jc4 _ rfl rfl rfl ?_)|(refine jb6 _ (envC _ _ _ _ _) rfl rfl rfl rfl rfl ?_ (hc:=by first|exact jd8 _ _ (by omega) (by omega)|exact ji1 _ _ (by omega) (by omega)))|(refine ja3 rfl (jb5 rfl rfl rfl) ?_)|(refine ja3 rfl (jb8 rfl rfl) ?_)|(refine ja3 rfl (jb1 rfl rfl) ?_)|(refine jc5 rfl rfl ?_)|(refine jb7 rfl rfl rfl rfl ?_)|(refine jb9 _ rfl rfl rfl rfl ?_)|(refine jc6 _ rfl rfl rfl ?_)));(refine ja1 ?_;refine jb0 [0,2,3,4,5] ?_)
   have hX:=And.intro and_true (jh3)
   refine jc3 ?_;(repeat (first|(refine jc4 _ rfl rfl rfl ?_)|(refine jb6 _ (envC _ _ _ _ _) rfl rfl rfl rfl rfl ?_ (hc:=by first|exact jd8 _ _ (by omega) (by omega)|exact ji1 _ _ (by omega) (by omega)))|(refine ja3 rfl (jb5 rfl rfl rfl) ?_)|(refine ja3 rfl (jb8 rfl rfl) ?_)|(refine ja3 rfl (jb1 rfl rfl) ?_)|(refine jc5 rfl rfl ?_)|(refine jb7 rfl rfl rfl rfl ?_)|(refine jb9 _ rfl rfl rfl rfl ?_)|(refine jc6 _ rfl rfl rfl ?_)));refine ja1 ?_
   refine ⟨_,m'-1,Weak.pick [0,2,3,4,5],by omega,i+1,by omega,?_⟩
   refine pk1 ?_
   rw [← vt2]
   rfl
  ·intro hc2
   have hi4:i=4:=by have:=of_decide_eq_false hc2;omega
   subst hi4
   refine jm9 ?_
   refine jb0 [0,2,3,4] ?_
   rw [vt1 l t htl]
   refine jc3 ?_;(repeat (first|(refine jc4 _ rfl rfl rfl ?_)|(refine jb6 _ (envC _ _ _ _ _) rfl rfl rfl rfl rfl ?_ (hc:=by first|exact jd8 _ _ (by omega) (by omega)|exact ji1 _ _ (by omega) (by omega)))|(refine ja3 rfl (jb5 rfl rfl rfl) ?_)|(refine ja3 rfl (jb8 rfl rfl) ?_)|(refine ja3 rfl (jb1 rfl rfl) ?_)|(refine jc5 rfl rfl ?_)|(refine jb7 rfl rfl rfl rfl ?_)|(refine jb9 _ rfl rfl rfl rfl ?_)|(refine jc6 _ rfl rfl rfl ?_)));refine ja1 ?_
   refine ⟨_,m-1,Weak.pick [0,2,3,4],by omega,t+1,by omega,?_⟩
   refine pk1 ?_
   rfl
 ·intro hc
  have htl:t=16:=by have:=of_decide_eq_false hc;omega
  subst htl
  refine jm9 ?_
  refine jb0 [2,3] ?_
  (repeat refine jb3 ?_);refine jc3 ?_;(repeat (first|(refine jc4 _ rfl rfl rfl ?_)|(refine jb6 _ (envC _ _ _ _ _) rfl rfl rfl rfl rfl ?_ (hc:=by first|exact jd8 _ _ (by omega) (by omega)|exact ji1 _ _ (by omega) (by omega)))|(refine ja3 rfl (jb5 rfl rfl rfl) ?_)|(refine ja3 rfl (jb8 rfl rfl) ?_)|(refine ja3 rfl (jb1 rfl rfl) ?_)|(refine jc5 rfl rfl ?_)|(refine jb7 rfl rfl rfl rfl ?_)|(refine jb9 _ rfl rfl rfl rfl ?_)|(refine jc6 _ rfl rfl rfl ?_)));(refine ja1 ?_;refine jb0 [2,3,6] ?_)
  (repeat refine jb3 ?_);refine jf4 ?_
  refine jn0 (fun m st=>∃t,t+m=64∧16≤t∧st=mk [(2,.ptr 0 0),(3,.ptr 1 0),(6,iD (t:Int))] [some (.one (.arr .u32 64 (fun _=>0))),some (.one (.arr .u32 64 (Wf l t)))]) 48 ⟨_,Weak.refl _ _,16,by omega,by omega,?_⟩ ?_
  ·simp [iD]
  clear m ht hc
  rintro m _ ⟨t,ht,ht16,rfl⟩
  (repeat refine jb3 ?_);refine jc3 ?_;(repeat (first|(refine jc4 _ rfl rfl rfl ?_)|(refine jb6 _ (envC _ _ _ _ _) rfl rfl rfl rfl rfl ?_ (hc:=by first|exact jd8 _ _ (by omega) (by omega)|exact ji1 _ _ (by omega) (by omega)))|(refine ja3 rfl (jb5 rfl rfl rfl) ?_)|(refine ja3 rfl (jb8 rfl rfl) ?_)|(refine ja3 rfl (jb1 rfl rfl) ?_)|(refine jc5 rfl rfl ?_)|(refine jb7 rfl rfl rfl rfl ?_)|(refine jb9 _ rfl rfl rfl rfl ?_)|(refine jc6 _ rfl rfl rfl ?_)));(refine ja1 ?_;refine jb0 [2,3,6,35] ?_)
  (repeat refine jb3 ?_);refine jm8 (by simp only [evD,mk,look,reduceIte,Nat.reduceEqDiff];exact rfl) ?_ ?_
  ·intro hc
   have htl:t<64:=by have:=of_decide_eq_true hc;omega
   refine jn1 ?_
   refine jb0 [2,3,6] ?_
   refine jb3 ?_
   refine jf4 ?_
   have e15:((t:Int)-15).toNat=t-15:=by omega
   have e2:((t:Int)-2).toNat=t-2:=by omega
   have e16:((t:Int)-16).toNat=t-16:=by omega
   have e7:((t:Int)-7).toNat=t-7:=by omega
   have f15:Wf l t (t-15)=((W l (t-15)).toNat:Int):=jy1 (by omega)
   have f2:Wf l t (t-2)=((W l (t-2)).toNat:Int):=jy1 (by omega)
   have f16:Wf l t (t-16)=((W l (t-16)).toNat:Int):=jy1 (by omega)
   have f7:Wf l t (t-7)=((W l (t-7)).toNat:Int):=jy1 (by omega)
   have hX:=And.intro e15 (And.intro e2 (And.intro e16 (And.intro e7 (And.intro f15 (And.intro f2 (And.intro f16 (And.intro f7 (jh3))))))))
   (repeat refine jb3 ?_);(repeat refine jb3 ?_);refine kw3 (by kernel_rfl) ?_;(repeat (first|(refine jn9 _ rfl rfl rfl ?_)|(refine jj4 _ (envC _ _ _ _ _) rfl rfl rfl rfl rfl ?_ (hc:=by first|exact jd8 _ _ (by omega) (by omega)|exact ji1 _ _ (by omega) (by omega)))|(refine jn8 rfl rfl ?_)|(refine jj5 rfl rfl rfl rfl ?_)|(refine jj9 _ rfl rfl rfl rfl ?_)|(refine jo0 _ rfl rfl rfl ?_)));refine jd7 ?_;refine jb0 [2,3,6,7,8] ?_
   (repeat refine jb3 ?_);refine jc3 ?_;(repeat (first|(refine jc4 _ rfl rfl rfl ?_)|(refine jb6 _ (envC _ _ _ _ _) rfl rfl rfl rfl rfl ?_ (hc:=by first|exact jd8 _ _ (by omega) (by omega)|exact ji1 _ _ (by omega) (by omega)))|(refine ja3 rfl (jb5 rfl rfl rfl) ?_)|(refine ja3 rfl (jb8 rfl rfl) ?_)|(refine ja3 rfl (jb1 rfl rfl) ?_)|(refine jc5 rfl rfl ?_)|(refine jb7 rfl rfl rfl rfl ?_)|(refine jb9 _ rfl rfl rfl rfl ?_)|(refine jc6 _ rfl rfl rfl ?_)));(refine ja1 ?_;refine jb0 [2,3,6,8,9] ?_)
   (repeat refine jb3 ?_);refine jc3 ?_;(repeat (first|(refine jc4 _ rfl rfl rfl ?_)|(refine jb6 _ (envC _ _ _ _ _) rfl rfl rfl rfl rfl ?_ (hc:=by first|exact jd8 _ _ (by omega) (by omega)|exact ji1 _ _ (by omega) (by omega)))|(refine ja3 rfl (jb5 rfl rfl rfl) ?_)|(refine ja3 rfl (jb8 rfl rfl) ?_)|(refine ja3 rfl (jb1 rfl rfl) ?_)|(refine jc5 rfl rfl ?_)|(refine jb7 rfl rfl rfl rfl ?_)|(refine jb9 _ rfl rfl rfl rfl ?_)|(refine jc6 _ rfl rfl rfl ?_)));(refine ja1 ?_;refine jb0 [2,3,6,9,10] ?_)
   (repeat refine jb3 ?_);refine jq4 15 (by kernel_rfl) ?_;simp only [List.take,List.drop];(repeat (first|(refine jn9 _ rfl rfl rfl ?_)|(refine jj4 _ (envC _ _ _ _ _) rfl rfl rfl rfl rfl ?_ (hc:=by first|exact jd8 _ _ (by omega) (by omega)|exact ji1 _ _ (by omega) (by omega)))|(refine jn8 rfl rfl ?_)|(refine jj5 rfl rfl rfl rfl ?_)|(refine jj9 _ rfl rfl rfl rfl ?_)|(refine jo0 _ rfl rfl rfl ?_)));refine jd7 ?_;(repeat (first|(refine jc4 _ rfl rfl rfl ?_)|(refine jb6 _ (envC _ _ _ _ _) rfl rfl rfl rfl rfl ?_ (hc:=by first|exact jd8 _ _ (by omega) (by omega)|exact ji1 _ _ (by omega) (by omega)))|(refine ja3 rfl (jb5 rfl rfl rfl) ?_)|(refine ja3 rfl (jb8 rfl rfl) ?_)|(refine ja3 rfl (jb1 rfl rfl) ?_)|(refine jc5 rfl rfl ?_)|(refine jb7 rfl rfl rfl rfl ?_)|(refine jb9 _ rfl rfl rfl rfl ?_)|(refine jc6 _ rfl rfl rfl ?_)));(refine ja1 ?_;refine jb0 [2,3,6] ?_)
   have hX:=And.intro and_true (jh3)
   refine jc3 ?_;(repeat (first|(refine jc4 _ rfl rfl rfl ?_)|(refine jb6 _ (envC _ _ _ _ _) rfl rfl rfl rfl rfl ?_ (hc:=by first|exact jd8 _ _ (by omega) (by omega)|exact ji1 _ _ (by omega) (by omega)))|(refine ja3 rfl (jb5 rfl rfl rfl) ?_)|(refine ja3 rfl (jb8 rfl rfl) ?_)|(refine ja3 rfl (jb1 rfl rfl) ?_)|(refine jc5 rfl rfl ?_)|(refine jb7 rfl rfl rfl rfl ?_)|(refine jb9 _ rfl rfl rfl rfl ?_)|(refine jc6 _ rfl rfl rfl ?_)));refine ja1 ?_
   refine ⟨_,m-1,Weak.pick [2,3,6],by omega,t+1,by omega,by omega,?_⟩
   refine pk1 ?_
   have hW:=W_hi (l:=l) (t:=t) (by omega)
   rw [← kn1 l t,hW]
   rfl
  ·intro hc
   have htl:t=64:=by have:=of_decide_eq_false hc;omega
   subst htl
   refine jm9 ?_
   refine jb0 [2,3] ?_
   (repeat refine jb3 ?_);refine jc3 ?_;(repeat (first|(refine jc4 _ rfl rfl rfl ?_)|(refine jb6 _ (envC _ _ _ _ _) rfl rfl rfl rfl rfl ?_ (hc:=by first|exact jd8 _ _ (by omega) (by omega)|exact ji1 _ _ (by omega) (by omega)))|(refine ja3 rfl (jb5 rfl rfl rfl) ?_)|(refine ja3 rfl (jb8 rfl rfl) ?_)|(refine ja3 rfl (jb1 rfl rfl) ?_)|(refine jc5 rfl rfl ?_)|(refine jb7 rfl rfl rfl rfl ?_)|(refine jb9 _ rfl rfl rfl rfl ?_)|(refine jc6 _ rfl rfl rfl ?_)));(refine ja1 ?_;refine jb0 [2] ?_)
   refine jq5 ?_;refine ⟨_,_,by exact dz9,?_,?_⟩
   ·trivial
   ·exact km8 fun i hi=>jy1 hi
def padZ (n:Nat):Nat:=(120-n % 64) % 64
def be64 (n:Nat):Nat→UInt8:=fun i=>UInt8.ofNat (n >>> (56-8*i))
def jt0 (l:List UInt8):List UInt8:=l++[128]++List.replicate (padZ (l.length+1)) 0
def jo4 (l:List UInt8) (n:Nat):List UInt8:=jt0 l++(List.range 8).map (be64 (n*8))
theorem qg6 (m j:Nat):(m:Int) / 2 ^ (56-8*j) % 256=((be64 m j).toNat:Int):=by
 unfold be64
 rw [UInt8.toNat_ofNat',Nat.shiftRight_eq_div_pow]
 rw [Int.natCast_emod,Int.natCast_ediv,Int.natCast_pow]
 rfl
theorem jz4 (l:List UInt8):(jt0 l).length=l.length+1+padZ (l.length+1):=by simp [jt0];omega

set_option maxHeartbeats 1000000 in
theorem vb6 (l:List UInt8) (n:Nat) (hl:l.length≤1048576) (h1:n≤281474976710656):PC (ja9 Tryz.prog) 74 [strD l,iD (n:Int)] (.sl (jo4 l n) 0 jc0):=by
 have hX:=and_true;refine ja7 Tryz.func74 rfl Tryz.ntmps74 Tryz.results74 rfl (by exact dz8) ?_;intro w0 A
 (repeat refine ja0 ?_);refine rgx [0,1] ?_
 (repeat refine ja0 ?_);refine rgx [1,5] ?_
 (repeat refine ja0 ?_);refine ja8 ?_
 (repeat refine ja0 ?_);refine jd4 (fun m _ st=>∃k,k+m=padZ (l.length+1)∧st=mk [(1,iD (n:Int)),(5,.own 0 (l.length+1+k) 5 1)] [some (.row ((l++[128]++List.replicate k 0).map jc0) 5 1)]) (padZ (l.length+1)) ⟨_,WeakX.refl _,0,by omega,?_⟩ ?_
 ·simp [iD,jc0]
 have hpz:padZ (l.length+1)<64:=Nat.mod_lt _ (by decide)
 rintro m _ _ ⟨k,hk,rfl⟩
 (repeat refine ja0 ?_);refine rgx [1,5,15] ?_
 (repeat refine ja0 ?_);refine ifx ?_ ?_
 ·intro hc
  (repeat refine ja0 ?_);refine ja6 ?_
  (repeat refine ja0 ?_);refine ja8 ?_
  (repeat refine ja0 ?_);refine rgx [1,5] ?_
  have hc':(l.length+1+k) % 64≠56:=by have:=hc;simp at this;omega
  have hlt:k<padZ (l.length+1):=by
   rcases Nat.lt_or_ge k (padZ (l.length+1)) with h|h
   ·exact h
   ·exfalso;apply hc';unfold padZ at *;omega
  refine ⟨_,m-1,WeakX.refl _,by omega,k+1,by omega,?_⟩
  simp [iD,strD,List.replicate_succ',jc0,← List.append_assoc,Nat.add_assoc]
 ·intro hc
  have hc':(l.length+1+k) % 64=56:=by
   have:((l.length+1+k:Nat):Int) % 64=56:=by simpa using hc
   omega
  have hke:k=padZ (l.length+1):=by unfold padZ at *;omega
  subst hke
  (repeat refine ja0 ?_);refine jd3 ?_
  rw [← jz4]
  show DX _ _ _ _ _ (mk _ [some (.row ((jt0 l).map jc0) 5 1)])
  have hX1:(n:Int) % 18446744073709551616=n:=by omega
  have hX2:(n:Int)*2 ^ 3 % 18446744073709551616=((n*8:Nat):Int):=by
   rw [show (2:Int) ^ 3=8 from rfl];omega
  have hN:(jt0 l).length≤1048700:=by rw [jz4];omega
  have hX:=And.intro hX1 (hX2)
  (repeat refine ja0 ?_);refine rgx [5,6] ?_
  (repeat refine ja0 ?_);refine rgx [5,6,7] ?_
  clear hX1 hX2
  (repeat refine ja0 ?_);refine ja8 ?_
  (repeat refine ja0 ?_);refine jd4 (fun m _ st=>∃j,j+m=8∧st=mk [(5,.own 0 ((jt0 l).length+j) 5 1),(6,.v (.int .u64 ((n*8:Nat):Int))),(7,iD (56-8*(j:Int)))] [some (.row ((jt0 l++(List.range j).map (be64 (n*8))).map jc0) 5 1)]) 8 ⟨_,WeakX.refl _,0,by omega,?_⟩ ?_
  ·simp [iD]
  rintro m _ _ ⟨j,hj,rfl⟩
  have hX:=and_true
  (repeat refine ja0 ?_);refine rgx [5,6,7,23] ?_
  (repeat refine ja0 ?_);refine ifx ?_ ?_
  ·intro hc
   have hj7:j≤7:=by have:=of_decide_eq_true hc;omega
   have hX1:((n*8:Nat):Int) / 2 ^ (56-8*(j:Int)).toNat % 256=((be64 (n*8) j).toNat:Int):=by
    rw [show (56-8*(j:Int)).toNat=56-8*j by omega]
    exact qg6 _ _
   have hX:=hX1
   (repeat refine ja0 ?_);refine ja6 ?_
   (repeat refine ja0 ?_);refine ja8 ?_
   (repeat refine ja0 ?_);refine rgx [5,6,7] ?_
   have hX:=and_true
   (repeat refine ja0 ?_);refine rgx [5,6,7] ?_
   refine ⟨_,m-1,WeakX.refl _,by omega,j+1,by omega,?_⟩
   rw [show (56-8*(j:Int))-8=56-8*((j+1:Nat):Int) by omega]
   simp [iD,strD,List.range_succ,jc0,← List.append_assoc,Nat.add_assoc]
  ·intro hc
   have hj8:j=8:=by have:=of_decide_eq_false hc;omega
   subst hj8
   (repeat refine ja0 ?_);refine jd3 ?_
   (repeat refine ja0 ?_);refine rgx [4] ?_
   (repeat refine ja0 ?_);refine ja5 ?_;refine retx ?_;(try dsimp only [outV,ja4])
   refine jk0 rfl (by simp only [elems,List.getElem?_cons_zero];exact rfl) (by simp) ?_ (fun _=>rfl)
   rw [List.take_of_length_le (by simp)]
   rfl
set_option maxHeartbeats 1000000 in
theorem kq2 (l:List UInt8) (hl:l.length≤1048576):PC (ja9 Tryz.prog) 112 [strD l] (.sl (jo4 l l.length) 0 jc0):=by
 have hX:=and_true;refine ja7 Tryz.func112 rfl Tryz.ntmps112 Tryz.results112 rfl (by exact dz8) ?_;intro w0 A
 (repeat refine ja0 ?_);refine rgx [0] ?_
 (repeat refine ja0 ?_);refine rgx [0,3] ?_
 (repeat refine ja0 ?_);refine ja8 ?_
 (repeat refine ja0 ?_);refine jd4 (fun m _ st=>∃k,k+m=padZ (l.length+1)∧st=mk [(0,strD l),(3,.own 0 (l.length+1+k) 5 1)] [some (.row ((l++[128]++List.replicate k 0).map jc0) 5 1)]) (padZ (l.length+1)) ⟨_,WeakX.refl _,0,by omega,?_⟩ ?_
 ·simp [strD,jc0]
 have hpz:padZ (l.length+1)<64:=Nat.mod_lt _ (by decide)
 rintro m _ _ ⟨k,hk,rfl⟩
 (repeat refine ja0 ?_);refine rgx [0,3,13] ?_
 (repeat refine ja0 ?_);refine ifx ?_ ?_
 ·intro hc
  (repeat refine ja0 ?_);refine ja6 ?_
  (repeat refine ja0 ?_);refine ja8 ?_
  (repeat refine ja0 ?_);refine rgx [0,3] ?_
  have hc':(l.length+1+k) % 64≠56:=by have:=hc;simp at this;omega
  have hlt:k<padZ (l.length+1):=by
   rcases Nat.lt_or_ge k (padZ (l.length+1)) with h|h
   ·exact h
   ·exfalso;apply hc';unfold padZ at *;omega
  refine ⟨_,m-1,WeakX.refl _,by omega,k+1,by omega,?_⟩
  simp [iD,strD,List.replicate_succ',jc0,← List.append_assoc,Nat.add_assoc]
 ·intro hc
  have hc':(l.length+1+k) % 64=56:=by
   have:((l.length+1+k:Nat):Int) % 64=56:=by simpa using hc
   omega
  have hke:k=padZ (l.length+1):=by unfold padZ at *;omega
  subst hke
  (repeat refine ja0 ?_);refine jd3 ?_
  rw [← jz4]
  show DX _ _ _ _ _ (mk _ [some (.row ((jt0 l).map jc0) 5 1)])
  have hX1:(l.length:Int) % 18446744073709551616=l.length:=by omega
  have hX2:(l.length:Int)*8 % 18446744073709551616=((l.length*8:Nat):Int):=by omega
  have hN:(jt0 l).length≤1048700:=by rw [jz4];omega
  have hX:=And.intro hX1 (hX2)
  (repeat refine ja0 ?_);refine rgx [3,4] ?_
  (repeat refine ja0 ?_);refine rgx [3,4,5] ?_
  clear hX1 hX2
  (repeat refine ja0 ?_);refine ja8 ?_
  (repeat refine ja0 ?_);refine jd4 (fun m _ st=>∃j,j+m=8∧st=mk [(3,.own 0 ((jt0 l).length+j) 5 1),(4,.v (.int .u64 ((l.length*8:Nat):Int))),(5,iD (56-8*(j:Int)))] [some (.row ((jt0 l++(List.range j).map (be64 (l.length*8))).map jc0) 5 1)]) 8 ⟨_,WeakX.refl _,0,by omega,?_⟩ ?_
  ·simp [iD]
  rintro m _ _ ⟨j,hj,rfl⟩
  have hX:=and_true
  (repeat refine ja0 ?_);refine rgx [3,4,5,22] ?_
  (repeat refine ja0 ?_);refine ifx ?_ ?_
  ·intro hc
   have hj7:j≤7:=by have:=of_decide_eq_true hc;omega
   have hX1:((l.length*8:Nat):Int) / 2 ^ (56-8*(j:Int)).toNat % 256=((be64 (l.length*8) j).toNat:Int):=by
    rw [show (56-8*(j:Int)).toNat=56-8*j by omega]
    exact qg6 _ _
   have hX:=hX1
   (repeat refine ja0 ?_);refine ja6 ?_
   (repeat refine ja0 ?_);refine ja8 ?_
   (repeat refine ja0 ?_);refine rgx [3,4,5] ?_
   have hX:=and_true
   (repeat refine ja0 ?_);refine rgx [3,4,5] ?_
   refine ⟨_,m-1,WeakX.refl _,by omega,j+1,by omega,?_⟩
   rw [show (56-8*(j:Int))-8=56-8*((j+1:Nat):Int) by omega]
   simp [iD,strD,List.range_succ,jc0,← List.append_assoc,Nat.add_assoc]
  ·intro hc
   have hj8:j=8:=by have:=of_decide_eq_false hc;omega
   subst hj8
   (repeat refine ja0 ?_);refine jd3 ?_
   (repeat refine ja0 ?_);refine rgx [2] ?_
   (repeat refine ja0 ?_);refine ja5 ?_;refine retx ?_;(try dsimp only [outV,ja4])
   refine jk0 rfl (by simp only [elems,List.getElem?_cons_zero];exact rfl) (by simp) ?_ (fun _=>rfl)
   rw [List.take_of_length_le (by simp)]
   rfl
def tt1 (l:List UInt8) (X:Nat→UInt32) (t:Nat):UInt32:=X 7+(ror (X 4) 6 ^^^ ror (X 4) 11 ^^^ ror (X 4) 25)+(X 4 &&& X 5 ^^^ ~~~ X 4 &&& X 6)+kT.getD t 0+W l t
def tt2 (X:Nat→UInt32):UInt32:=(ror (X 0) 2 ^^^ ror (X 0) 13 ^^^ ror (X 0) 22)+(X 0 &&& X 1 ^^^ X 0 &&& X 2 ^^^ X 1 &&& X 2)
def rnd (l:List UInt8) (X:Nat→UInt32) (t:Nat):Nat→UInt32:=fun j=>if j=0 then tt1 l X t+tt2 X else if j=4 then X 3+tt1 l X t else if j<8 then X (j-1) else X j
def rnds (l:List UInt8) (V:Nat→UInt32):Nat→Nat→UInt32
 | 0=>V
 | t+1=>rnd l (rnds l V t) t
def addK (l:List UInt8) (V:Nat→UInt32) (k:Nat):Nat→UInt32:=fun j=>if j<k then V j+rnds l V 64 j else V j
def addS (l:List UInt8) (V:Nat→UInt32):Nat→UInt32:=addK l V 8
def vf (V:Nat→UInt32):Nat→Int:=fun j=>((V j).toNat:Int)
def sumD (V:Nat→UInt32):D:=.arr .u32 8 (vf V)
theorem jo7 (V:Nat→UInt32):sumD V = .arr .u32 8 (vf V):=rfl
def shF (X:Nat→UInt32):Nat→Int:=fun j=>if 1≤j∧j<8 then ((X (j-1)).toNat:Int) else ((X j).toNat:Int)
theorem js3 (V:Nat→UInt32) (j:Nat):vf V j=((V j).toNat:Int):=rfl
theorem wc5 (l:List UInt8) (X:Nat→UInt32) (t:Nat):updI (updI (shF X) 0 ((tt1 l X t+tt2 X).toNat:Int)) 4 ((X 3+tt1 l X t).toNat:Int)=vf (rnd l X t):=by
 funext j
 unfold updI shF vf rnd
 by_cases h4:j=4
 ·subst h4;simp
 ·by_cases h0:j=0
  ·subst h0;simp
  ·by_cases h8:j<8
   ·simp [h4,h0,h8,show 1≤j by omega]
   ·simp [h4,h0,h8]
theorem shc (X:Nat→UInt32):(cpyI (vf X) 1 7 fun i=>jv2 ([D.v (.int .u32 (X 0).toNat),D.v (.int .u32 (X 1).toNat),D.v (.int .u32 (X 2).toNat),D.v (.int .u32 (X 3).toNat),D.v (.int .u32 (X 4).toNat),D.v (.int .u32 (X 5).toNat),D.v (.int .u32 (X 6).toNat)].getD i D.dead))=shF X:=by
 funext j
 unfold cpyI shF
 by_cases h:1≤j∧j<8
 ·rw [if_pos (by omega),if_pos h]
  have:j=1∨j=2∨j=3∨j=4∨j=5∨j=6∨j=7:=by omega
  rcases this with rfl|rfl|rfl|rfl|rfl|rfl|rfl<;>rfl
 ·rw [if_neg (by omega),if_neg h]
  rfl
theorem qq7 (l:List UInt8) (V:Nat→UInt32) (k:Nat):updI (vf (addK l V k)) k ((V k+rnds l V 64 k).toNat:Int)=vf (addK l V (k+1)):=by
 funext j
 unfold updI vf addK
 by_cases h:j=k
 ·subst h;simp
 ·by_cases h2:j<k
  ·simp [h,h2,show j<k+1 by omega]
  ·simp [h,h2,show ¬j<k+1 by omega]

set_option maxHeartbeats 4000000 in
theorem qe6 (l:List UInt8) (hl:l.length=64) (V:Nat→UInt32):PM (ja9 Tryz.prog) 73 (sumD V) [jn3 l] (sumD (addS l V)) (.tup .nil):=by
 have hX:=and_true;refine vo7 Tryz.func73 rfl Tryz.ntmps73 Tryz.results73 rfl rfl (by exact dz8) ?_;intro w0 A b0
 have hX:=And.intro jo7 (And.intro jp8 (And.intro js3 (jh3)))
 (repeat refine jb3 ?_);refine jc3 ?_;(repeat (first|(refine jc4 _ rfl rfl rfl ?_)|(refine jb6 _ (envF _ _ _ _ _) rfl rfl rfl rfl rfl ?_ (hc:=by first|exact jg3 _ _ (by omega) (by omega)|exact jj2 _ hl))|(refine ja3 rfl (jb5 rfl rfl rfl) ?_)|(refine ja3 rfl (jb8 rfl rfl) ?_)|(refine ja3 rfl (jb1 rfl rfl) ?_)|(refine jc5 rfl rfl ?_)|(refine jb7 rfl rfl rfl rfl ?_)|(refine jb9 _ rfl rfl rfl rfl ?_)|(refine jc6 _ rfl rfl rfl ?_)));(refine ja1 ?_;refine jb0 [0,4] ?_)
 (repeat refine jb3 ?_);refine jc3 ?_;(repeat (first|(refine jc4 _ rfl rfl rfl ?_)|(refine jb6 _ (envF _ _ _ _ _) rfl rfl rfl rfl rfl ?_ (hc:=by first|exact jg3 _ _ (by omega) (by omega)|exact jj2 _ hl))|(refine ja3 rfl (jb5 rfl rfl rfl) ?_)|(refine ja3 rfl (jb8 rfl rfl) ?_)|(refine ja3 rfl (jb1 rfl rfl) ?_)|(refine jc5 rfl rfl ?_)|(refine jb7 rfl rfl rfl rfl ?_)|(refine jb9 _ rfl rfl rfl rfl ?_)|(refine jc6 _ rfl rfl rfl ?_)));(refine ja1 ?_;refine jb0 [0,4,5] ?_)
 (repeat refine jb3 ?_);refine jc3 ?_;(repeat (first|(refine jc4 _ rfl rfl rfl ?_)|(refine jb6 _ (envF _ _ _ _ _) rfl rfl rfl rfl rfl ?_ (hc:=by first|exact jg3 _ _ (by omega) (by omega)|exact jj2 _ hl))|(refine ja3 rfl (jb5 rfl rfl rfl) ?_)|(refine ja3 rfl (jb8 rfl rfl) ?_)|(refine ja3 rfl (jb1 rfl rfl) ?_)|(refine jc5 rfl rfl ?_)|(refine jb7 rfl rfl rfl rfl ?_)|(refine jb9 _ rfl rfl rfl rfl ?_)|(refine jc6 _ rfl rfl rfl ?_)));(refine ja1 ?_;refine jb0 [0,4,5,17] ?_)
 (repeat refine jb3 ?_);refine jf4 ?_
 refine jn0 (fun m st=>∃t,t+m=64∧st=mk [(0,.ptr 0 0),(4,.ptr 1 0),(5,.ptr 2 0),(17,iD (t:Int))] [some (.one (.arr .u32 8 (vf V))),some (.one (.arr .u32 64 (fun j=>((W l j).toNat:Int)))),some (.one (.arr .u32 8 (vf (rnds l V t))))]) 64 ⟨_,Weak.refl _ _,0,by omega,?_⟩ ?_
 ·simp [iD,rnds]
  trace_state
 rintro m _ ⟨t,ht,rfl⟩
 generalize hRX:rnds l V t=X
 (repeat refine jb3 ?_);refine jc3 ?_;(repeat (first|(refine jc4 _ rfl rfl rfl ?_)|(refine jb6 _ (envF _ _ _ _ _) rfl rfl rfl rfl rfl ?_ (hc:=by first|exact jg3 _ _ (by omega) (by omega)|exact jj2 _ hl))|(refine ja3 rfl (jb5 rfl rfl rfl) ?_)|(refine ja3 rfl (jb8 rfl rfl) ?_)|(refine ja3 rfl (jb1 rfl rfl) ?_)|(refine jc5 rfl rfl ?_)|(refine jb7 rfl rfl rfl rfl ?_)|(refine jb9 _ rfl rfl rfl rfl ?_)|(refine jc6 _ rfl rfl rfl ?_)));(refine ja1 ?_;refine jb0 [0,4,5,17,18] ?_)
 (repeat refine jb3 ?_);refine jm8 (by simp only [evD,mk,look,reduceIte,Nat.reduceEqDiff];exact rfl) ?_ ?_
 ·intro hc
  have htl:t<64:=by have:=of_decide_eq_true hc;omega
  refine jn1 ?_
  refine jb0 [0,4,5,17] ?_
  refine jb3 ?_
  refine jf4 ?_
  (repeat refine jb3 ?_);refine jc3 ?_;(repeat (first|(refine jc4 _ rfl rfl rfl ?_)|(refine jb6 _ (envF _ _ _ _ _) rfl rfl rfl rfl rfl ?_ (hc:=by first|exact jg3 _ _ (by omega) (by omega)|exact jj2 _ hl))|(refine ja3 rfl (jb5 rfl rfl rfl) ?_)|(refine ja3 rfl (jb8 rfl rfl) ?_)|(refine ja3 rfl (jb1 rfl rfl) ?_)|(refine jc5 rfl rfl ?_)|(refine jb7 rfl rfl rfl rfl ?_)|(refine jb9 _ rfl rfl rfl rfl ?_)|(refine jc6 _ rfl rfl rfl ?_)));(refine ja1 ?_;refine jb0 [0,4,5,6,17] ?_)
  (repeat refine jb3 ?_);refine jc3 ?_;(repeat (first|(refine jc4 _ rfl rfl rfl ?_)|(refine jb6 _ (envF _ _ _ _ _) rfl rfl rfl rfl rfl ?_ (hc:=by first|exact jg3 _ _ (by omega) (by omega)|exact jj2 _ hl))|(refine ja3 rfl (jb5 rfl rfl rfl) ?_)|(refine ja3 rfl (jb8 rfl rfl) ?_)|(refine ja3 rfl (jb1 rfl rfl) ?_)|(refine jc5 rfl rfl ?_)|(refine jb7 rfl rfl rfl rfl ?_)|(refine jb9 _ rfl rfl rfl rfl ?_)|(refine jc6 _ rfl rfl rfl ?_)));(refine ja1 ?_;refine jb0 [0,4,5,6,7,17] ?_)
  (repeat refine jb3 ?_);refine jq4 30 (by kernel_rfl) ?_;simp only [List.take,List.drop];(repeat (first|(refine jn9 _ rfl rfl rfl ?_)|(refine jj4 _ (envF _ _ _ _ _) rfl rfl rfl rfl rfl ?_ (hc:=by first|exact jg3 _ _ (by omega) (by omega)|exact jj2 _ hl))|(refine jn8 rfl rfl ?_)|(refine jj5 rfl rfl rfl rfl ?_)|(refine jj9 _ rfl rfl rfl rfl ?_)|(refine jo0 _ rfl rfl rfl ?_)));refine jd7 ?_;(repeat (first|(refine jc4 _ rfl rfl rfl ?_)|(refine jb6 _ (envF _ _ _ _ _) rfl rfl rfl rfl rfl ?_ (hc:=by first|exact jg3 _ _ (by omega) (by omega)|exact jj2 _ hl))|(refine ja3 rfl (jb5 rfl rfl rfl) ?_)|(refine ja3 rfl (jb8 rfl rfl) ?_)|(refine ja3 rfl (jb1 rfl rfl) ?_)|(refine jc5 rfl rfl ?_)|(refine jb7 rfl rfl rfl rfl ?_)|(refine jb9 _ rfl rfl rfl rfl ?_)|(refine jc6 _ rfl rfl rfl ?_)));(refine ja1 ?_;refine jb0 [0,4,5,8,17] ?_)
  (repeat refine jb3 ?_);refine jc3 ?_;(repeat (first|(refine jc4 _ rfl rfl rfl ?_)|(refine jb6 _ (envF _ _ _ _ _) rfl rfl rfl rfl rfl ?_ (hc:=by first|exact jg3 _ _ (by omega) (by omega)|exact jj2 _ hl))|(refine ja3 rfl (jb5 rfl rfl rfl) ?_)|(refine ja3 rfl (jb8 rfl rfl) ?_)|(refine ja3 rfl (jb1 rfl rfl) ?_)|(refine jc5 rfl rfl ?_)|(refine jb7 rfl rfl rfl rfl ?_)|(refine jb9 _ rfl rfl rfl rfl ?_)|(refine jc6 _ rfl rfl rfl ?_)));(refine ja1 ?_;refine jb0 [0,4,5,8,9,17] ?_)
  (repeat refine jb3 ?_);refine jq4 24 (by kernel_rfl) ?_;simp only [List.take,List.drop];(repeat (first|(refine jn9 _ rfl rfl rfl ?_)|(refine jj4 _ (envF _ _ _ _ _) rfl rfl rfl rfl rfl ?_ (hc:=by first|exact jg3 _ _ (by omega) (by omega)|exact jj2 _ hl))|(refine jn8 rfl rfl ?_)|(refine jj5 rfl rfl rfl rfl ?_)|(refine jj9 _ rfl rfl rfl rfl ?_)|(refine jo0 _ rfl rfl rfl ?_)));refine jd7 ?_;(repeat (first|(refine jc4 _ rfl rfl rfl ?_)|(refine jb6 _ (envF _ _ _ _ _) rfl rfl rfl rfl rfl ?_ (hc:=by first|exact jg3 _ _ (by omega) (by omega)|exact jj2 _ hl))|(refine ja3 rfl (jb5 rfl rfl rfl) ?_)|(refine ja3 rfl (jb8 rfl rfl) ?_)|(refine ja3 rfl (jb1 rfl rfl) ?_)|(refine jc5 rfl rfl ?_)|(refine jb7 rfl rfl rfl rfl ?_)|(refine jb9 _ rfl rfl rfl rfl ?_)|(refine jc6 _ rfl rfl rfl ?_)));(refine ja1 ?_;refine jb0 [0,4,5,8,10,17] ?_)
  (repeat refine jb3 ?_);refine jq4 2 (by kernel_rfl) ?_;simp only [List.take,List.drop];(repeat (first|(refine jn9 _ rfl rfl rfl ?_)|(refine jj4 _ (envF _ _ _ _ _) rfl rfl rfl rfl rfl ?_ (hc:=by first|exact jg3 _ _ (by omega) (by omega)|exact jj2 _ hl))|(refine jn8 rfl rfl ?_)|(refine jj5 rfl rfl rfl rfl ?_)|(refine jj9 _ rfl rfl rfl rfl ?_)|(refine jo0 _ rfl rfl rfl ?_)));refine jd7 ?_
  (refine DR_e rfl (qp6 (m:=7) rfl rfl rfl rfl rfl (by exact dz10) (by exact dz10) (by exact dz10) ?_ ?_ ?_ ?_ ?_) (by exact dz1) ?_)
  ·trivial
  ·simp
  ·intro d hd
   simp only [List.mem_cons,List.not_mem_nil,or_false] at hd
   rcases hd with rfl|rfl|rfl|rfl|rfl|rfl|rfl<;>rfl
  ·omega
  ·omega
  (refine ja1 ?_;refine jb0 [0,4,5,8,10,17] ?_)
  rw [shc X]
  have hF4:shF X 4=((X 3).toNat:Int):=rfl
  have hX:=And.intro js3 (And.intro hF4 (And.intro jh3 (And.intro jo7 (jp8))))
  (repeat refine jb3 ?_);refine jc3 ?_;(repeat (first|(refine jc4 _ rfl rfl rfl ?_)|(refine jb6 _ (envF _ _ _ _ _) rfl rfl rfl rfl rfl ?_ (hc:=by first|exact jg3 _ _ (by omega) (by omega)|exact jj2 _ hl))|(refine ja3 rfl (jb5 rfl rfl rfl) ?_)|(refine ja3 rfl (jb8 rfl rfl) ?_)|(refine ja3 rfl (jb1 rfl rfl) ?_)|(refine jc5 rfl rfl ?_)|(refine jb7 rfl rfl rfl rfl ?_)|(refine jb9 _ rfl rfl rfl rfl ?_)|(refine jc6 _ rfl rfl rfl ?_)));(refine ja1 ?_;refine jb0 [0,4,5,17] ?_)
  have hX:=And.intro js3 (And.intro jh3 (And.intro jo7 (jp8)))
  refine jc3 ?_;(repeat (first|(refine jc4 _ rfl rfl rfl ?_)|(refine jb6 _ (envF _ _ _ _ _) rfl rfl rfl rfl rfl ?_ (hc:=by first|exact jg3 _ _ (by omega) (by omega)|exact jj2 _ hl))|(refine ja3 rfl (jb5 rfl rfl rfl) ?_)|(refine ja3 rfl (jb8 rfl rfl) ?_)|(refine ja3 rfl (jb1 rfl rfl) ?_)|(refine jc5 rfl rfl ?_)|(refine jb7 rfl rfl rfl rfl ?_)|(refine jb9 _ rfl rfl rfl rfl ?_)|(refine jc6 _ rfl rfl rfl ?_)));refine ja1 ?_
  refine ⟨_,m-1,Weak.pick [0,4,5,17],by omega,t+1,by omega,?_⟩
  refine pk1 ?_
  have hR:=wc5 l X t
  rw [show rnds l V (t+1)=rnd l X t by rw [← hRX];rfl,← hR]
  rfl
 ·intro hc
  have htl:t=64:=by have:=of_decide_eq_false hc;omega
  subst htl
  subst hRX
  refine jm9 ?_
  refine jb0 [0,5] ?_
  (repeat refine jb3 ?_);refine jc3 ?_;(repeat (first|(refine jc4 _ rfl rfl rfl ?_)|(refine jb6 _ (envF _ _ _ _ _) rfl rfl rfl rfl rfl ?_ (hc:=by first|exact jg3 _ _ (by omega) (by omega)|exact jj2 _ hl))|(refine ja3 rfl (jb5 rfl rfl rfl) ?_)|(refine ja3 rfl (jb8 rfl rfl) ?_)|(refine ja3 rfl (jb1 rfl rfl) ?_)|(refine jc5 rfl rfl ?_)|(refine jb7 rfl rfl rfl rfl ?_)|(refine jb9 _ rfl rfl rfl rfl ?_)|(refine jc6 _ rfl rfl rfl ?_)));(refine ja1 ?_;refine jb0 [0,5,91] ?_)
  (repeat refine jb3 ?_);refine jf4 ?_
  refine jn0 (fun m st=>∃k,k+m=8∧st=mk [(0,.ptr 0 0),(5,.ptr 2 0),(91,iD (k:Int))] [some (.one (.arr .u32 8 (vf (addK l V k)))),some (.one (.arr .u32 64 (fun j=>((W l j).toNat:Int)))),some (.one (.arr .u32 8 (vf (rnds l V 64))))]) 8 ⟨_,Weak.refl _ _,0,by omega,?_⟩ ?_
  ·have:addK l V 0=V:=by funext j;simp [addK]
   rw [this]
   rfl
  clear m ht hc
  rintro m _ ⟨k,hk,rfl⟩
  (repeat refine jb3 ?_);refine jc3 ?_;(repeat (first|(refine jc4 _ rfl rfl rfl ?_)|(refine jb6 _ (envF _ _ _ _ _) rfl rfl rfl rfl rfl ?_ (hc:=by first|exact jg3 _ _ (by omega) (by omega)|exact jj2 _ hl))|(refine ja3 rfl (jb5 rfl rfl rfl) ?_)|(refine ja3 rfl (jb8 rfl rfl) ?_)|(refine ja3 rfl (jb1 rfl rfl) ?_)|(refine jc5 rfl rfl ?_)|(refine jb7 rfl rfl rfl rfl ?_)|(refine jb9 _ rfl rfl rfl rfl ?_)|(refine jc6 _ rfl rfl rfl ?_)));(refine ja1 ?_;refine jb0 [0,5,91,92] ?_)
  (repeat refine jb3 ?_);refine jm8 (by simp only [evD,mk,look,reduceIte,Nat.reduceEqDiff];exact rfl) ?_ ?_
  ·intro hc
   have hkl:k<8:=by have:=of_decide_eq_true hc;omega
   refine jn1 ?_
   refine jb0 [0,5,91] ?_
   refine jb3 ?_
   refine jf4 ?_
   (repeat refine jb3 ?_);refine jc3 ?_;(repeat (first|(refine jc4 _ rfl rfl rfl ?_)|(refine jb6 _ (envF _ _ _ _ _) rfl rfl rfl rfl rfl ?_ (hc:=by first|exact jg3 _ _ (by omega) (by omega)|exact jj2 _ hl))|(refine ja3 rfl (jb5 rfl rfl rfl) ?_)|(refine ja3 rfl (jb8 rfl rfl) ?_)|(refine ja3 rfl (jb1 rfl rfl) ?_)|(refine jc5 rfl rfl ?_)|(refine jb7 rfl rfl rfl rfl ?_)|(refine jb9 _ rfl rfl rfl rfl ?_)|(refine jc6 _ rfl rfl rfl ?_)));(refine ja1 ?_;refine jb0 [0,5,11,91] ?_)
   have hVk:addK l V k k=V k:=by simp [addK]
   have hX:=And.intro js3 (And.intro hVk (And.intro jh3 (And.intro jo7 (jp8))))
   (repeat refine jb3 ?_);refine jq4 11 (by kernel_rfl) ?_;simp only [List.take,List.drop];(repeat (first|(refine jn9 _ rfl rfl rfl ?_)|(refine jj4 _ (envF _ _ _ _ _) rfl rfl rfl rfl rfl ?_ (hc:=by first|exact jg3 _ _ (by omega) (by omega)|exact jj2 _ hl))|(refine jn8 rfl rfl ?_)|(refine jj5 rfl rfl rfl rfl ?_)|(refine jj9 _ rfl rfl rfl rfl ?_)|(refine jo0 _ rfl rfl rfl ?_)));refine jd7 ?_;(repeat (first|(refine jc4 _ rfl rfl rfl ?_)|(refine jb6 _ (envF _ _ _ _ _) rfl rfl rfl rfl rfl ?_ (hc:=by first|exact jg3 _ _ (by omega) (by omega)|exact jj2 _ hl))|(refine ja3 rfl (jb5 rfl rfl rfl) ?_)|(refine ja3 rfl (jb8 rfl rfl) ?_)|(refine ja3 rfl (jb1 rfl rfl) ?_)|(refine jc5 rfl rfl ?_)|(refine jb7 rfl rfl rfl rfl ?_)|(refine jb9 _ rfl rfl rfl rfl ?_)|(refine jc6 _ rfl rfl rfl ?_)));(refine ja1 ?_;refine jb0 [0,5,91] ?_)
   have hX:=And.intro js3 (And.intro jh3 (And.intro jo7 (jp8)))
   refine jc3 ?_;(repeat (first|(refine jc4 _ rfl rfl rfl ?_)|(refine jb6 _ (envF _ _ _ _ _) rfl rfl rfl rfl rfl ?_ (hc:=by first|exact jg3 _ _ (by omega) (by omega)|exact jj2 _ hl))|(refine ja3 rfl (jb5 rfl rfl rfl) ?_)|(refine ja3 rfl (jb8 rfl rfl) ?_)|(refine ja3 rfl (jb1 rfl rfl) ?_)|(refine jc5 rfl rfl ?_)|(refine jb7 rfl rfl rfl rfl ?_)|(refine jb9 _ rfl rfl rfl rfl ?_)|(refine jc6 _ rfl rfl rfl ?_)));refine ja1 ?_
   refine ⟨_,m-1,Weak.pick [0,5,91],by omega,k+1,by omega,?_⟩
   refine pk1 ?_
   rw [← qq7]
   rfl
  ·intro hc
   have hkl:k=8:=by have:=of_decide_eq_false hc;omega
   subst hkl
   refine jm9 ?_
   exact ⟨_,_,rfl,⟨trivial,rfl⟩,rfl,rfl,LeP.refl rfl⟩
def hb (V:Nat→UInt32) (j:Nat):UInt8:=(V (j / 4) >>> UInt32.ofNat (24-8*(j % 4))).toUInt8
def sumB (V:Nat→UInt32):List UInt8:=(List.range 32).map (hb V)
def jd1 (h:List UInt8):D:=.arr .u8 32 (fun i=>((h.getD i 0).toNat:Int))
def hf (V:Nat→UInt32) (k:Nat):Nat→Int:=fun j=>if j<4*k then ((hb V j).toNat:Int) else 0
theorem qu7 (V:Nat→UInt32) (i:Nat) (h:i<32):(sumB V).getD i 0=hb V i:=by simp [sumB,List.getD_eq_getElem?_getD,h]
theorem vw9 (V:Nat→UInt32) (k:Nat):updI (updI (updI (updI (hf V k) (4*k) ((V k >>> UInt32.ofNat 24).toUInt8.toNat:Int)) (4*k+1) ((V k >>> UInt32.ofNat 16).toUInt8.toNat:Int)) (4*k+2) ((V k >>> UInt32.ofNat 8).toUInt8.toNat:Int)) (4*k+3) ((V k).toUInt8.toNat:Int)=hf V (k+1):=by
 funext j
 unfold updI hf
 by_cases h0:j=4*k
 ·subst h0
  rw [if_neg (by omega),if_neg (by omega),if_neg (by omega),if_pos rfl,if_pos (by omega)]
  simp [hb]
 by_cases h1:j=4*k+1
 ·subst h1
  rw [if_neg (by omega),if_neg (by omega),if_pos rfl,if_pos (by omega)]
  simp only [hb,show (4*k+1) / 4=k by omega,show (4*k+1) % 4=1 by omega]
 by_cases h2:j=4*k+2
 ·subst h2
  rw [if_neg (by omega),if_pos rfl,if_pos (by omega)]
  simp only [hb,show (4*k+2) / 4=k by omega,show (4*k+2) % 4=2 by omega]
 by_cases h3:j=4*k+3
 ·subst h3
  rw [if_pos rfl,if_pos (by omega)]
  simp only [hb,show (4*k+3) / 4=k by omega,show (4*k+3) % 4=3 by omega]
  simp
 by_cases h4:j<4*k
 ·rw [if_neg h3,if_neg h2,if_neg h1,if_neg h0,if_pos h4,if_pos (by omega)]
 ·rw [if_neg h3,if_neg h2,if_neg h1,if_neg h0,if_neg h4,if_neg (by omega)]
theorem vs7 {k:IntKind}{n:Nat}{f g:Nat→Int} (hfg:∀i,i<n→f i=g i):LeP (.arr k n f) (.arr k n g):=by
 intro C h w bs x hw hx
 obtain ⟨cs,e1,e2,e3⟩:=hx
 refine ⟨cs,e1,e2,fun i hi=>?_⟩
 have h1:=(e3 i hi).pure rfl
 simp only [cell] at h1 ⊢
 rw [← hfg i (by omega)]
 exact h1

set_option maxHeartbeats 4000000 in
theorem qq9 (V:Nat→UInt32):PM (ja9 Tryz.prog) 75 (sumD V) [] (sumD V) (jd1 (sumB V)):=by
 have hX:=and_true;refine vo7 Tryz.func75 rfl Tryz.ntmps75 Tryz.results75 rfl rfl (by exact dz8) ?_;intro w0 A b0
 have hX:=And.intro jo7 (js3)
 (repeat refine jb3 ?_);refine jc3 ?_;(repeat (first|(refine jc4 _ rfl rfl rfl ?_)|(refine jb6 _ (envF _ _ _ _ _) rfl rfl rfl rfl rfl ?_ (hc:=by first|fail))|(refine ja3 rfl (jb5 rfl rfl rfl) ?_)|(refine ja3 rfl (jb8 rfl rfl) ?_)|(refine ja3 rfl (jb1 rfl rfl) ?_)|(refine jc5 rfl rfl ?_)|(refine jb7 rfl rfl rfl rfl ?_)|(refine jb9 _ rfl rfl rfl rfl ?_)|(refine jc6 _ rfl rfl rfl ?_)));(refine ja1 ?_;refine jb0 [0,2] ?_)
 (repeat refine jb3 ?_);refine jc3 ?_;(repeat (first|(refine jc4 _ rfl rfl rfl ?_)|(refine jb6 _ (envF _ _ _ _ _) rfl rfl rfl rfl rfl ?_ (hc:=by first|fail))|(refine ja3 rfl (jb5 rfl rfl rfl) ?_)|(refine ja3 rfl (jb8 rfl rfl) ?_)|(refine ja3 rfl (jb1 rfl rfl) ?_)|(refine jc5 rfl rfl ?_)|(refine jb7 rfl rfl rfl rfl ?_)|(refine jb9 _ rfl rfl rfl rfl ?_)|(refine jc6 _ rfl rfl rfl ?_)));(refine ja1 ?_;refine jb0 [0,2,3] ?_)
 (repeat refine jb3 ?_);refine jc3 ?_;(repeat (first|(refine jc4 _ rfl rfl rfl ?_)|(refine jb6 _ (envF _ _ _ _ _) rfl rfl rfl rfl rfl ?_ (hc:=by first|fail))|(refine ja3 rfl (jb5 rfl rfl rfl) ?_)|(refine ja3 rfl (jb8 rfl rfl) ?_)|(refine ja3 rfl (jb1 rfl rfl) ?_)|(refine jc5 rfl rfl ?_)|(refine jb7 rfl rfl rfl rfl ?_)|(refine jb9 _ rfl rfl rfl rfl ?_)|(refine jc6 _ rfl rfl rfl ?_)));(refine ja1 ?_;refine jb0 [2,3,6,7] ?_)
 (repeat refine jb3 ?_);refine jf4 ?_
 refine jn0 (fun m st=>∃k,k+m=8∧st=mk [(2,.ptr 1 0),(3,.ptr 2 0),(6,.ptr 0 0),(7,iD (k:Int))] [some (.one (.arr .u32 8 (vf V))),some (.one (.arr .u8 32 (fun _=>0))),some (.one (.arr .u8 32 (hf V k)))]) 8 ⟨_,Weak.refl _ _,0,by omega,?_⟩ ?_
 ·have:hf V 0=fun _=>0:=by funext j;simp [hf]
  rw [this]
  rfl
 rintro m _ ⟨k,hk,rfl⟩
 (repeat refine jb3 ?_);refine jc3 ?_;(repeat (first|(refine jc4 _ rfl rfl rfl ?_)|(refine jb6 _ (envF _ _ _ _ _) rfl rfl rfl rfl rfl ?_ (hc:=by first|fail))|(refine ja3 rfl (jb5 rfl rfl rfl) ?_)|(refine ja3 rfl (jb8 rfl rfl) ?_)|(refine ja3 rfl (jb1 rfl rfl) ?_)|(refine jc5 rfl rfl ?_)|(refine jb7 rfl rfl rfl rfl ?_)|(refine jb9 _ rfl rfl rfl rfl ?_)|(refine jc6 _ rfl rfl rfl ?_)));(refine ja1 ?_;refine jb0 [2,3,6,7,8] ?_)
 (repeat refine jb3 ?_);refine jm8 (by simp only [evD,mk,look,reduceIte,Nat.reduceEqDiff];exact rfl) ?_ ?_
 ·intro hc
  have hkl:k<8:=by have:=of_decide_eq_true hc;omega
  refine jn1 ?_
  refine jb0 [2,3,6,7] ?_
  refine jb3 ?_
  refine jf4 ?_
  (repeat refine jb3 ?_);(repeat refine jb3 ?_);refine kw3 (by kernel_rfl) ?_;(repeat (first|(refine jn9 _ rfl rfl rfl ?_)|(refine jj4 _ (envF _ _ _ _ _) rfl rfl rfl rfl rfl ?_ (hc:=by first|fail))|(refine jn8 rfl rfl ?_)|(refine jj5 rfl rfl rfl rfl ?_)|(refine jj9 _ rfl rfl rfl rfl ?_)|(refine jo0 _ rfl rfl rfl ?_)));refine jd7 ?_;refine jb0 [2,3,4,5,6,7] ?_
  have e0:(4*(k:Int)).toNat=4*k:=by omega
  have e1:(4*(k:Int)+1).toNat=4*k+1:=by omega
  have e2:(4*(k:Int)+2).toNat=4*k+2:=by omega
  have e3:(4*(k:Int)+3).toNat=4*k+3:=by omega
  have hX:=And.intro e0 (And.intro e1 (And.intro e2 (And.intro e3 (jo7))))
  (repeat refine jb3 ?_);refine jc3 ?_;(repeat (first|(refine jc4 _ rfl rfl rfl ?_)|(refine jb6 _ (envF _ _ _ _ _) rfl rfl rfl rfl rfl ?_ (hc:=by first|fail))|(refine ja3 rfl (jb5 rfl rfl rfl) ?_)|(refine ja3 rfl (jb8 rfl rfl) ?_)|(refine ja3 rfl (jb1 rfl rfl) ?_)|(refine jc5 rfl rfl ?_)|(refine jb7 rfl rfl rfl rfl ?_)|(refine jb9 _ rfl rfl rfl rfl ?_)|(refine jc6 _ rfl rfl rfl ?_)));(refine ja1 ?_;refine jb0 [2,3,6,7] ?_)
  have hX:=And.intro js3 (jo7)
  refine jc3 ?_;(repeat (first|(refine jc4 _ rfl rfl rfl ?_)|(refine jb6 _ (envF _ _ _ _ _) rfl rfl rfl rfl rfl ?_ (hc:=by first|fail))|(refine ja3 rfl (jb5 rfl rfl rfl) ?_)|(refine ja3 rfl (jb8 rfl rfl) ?_)|(refine ja3 rfl (jb1 rfl rfl) ?_)|(refine jc5 rfl rfl ?_)|(refine jb7 rfl rfl rfl rfl ?_)|(refine jb9 _ rfl rfl rfl rfl ?_)|(refine jc6 _ rfl rfl rfl ?_)));refine ja1 ?_
  refine ⟨_,m-1,Weak.pick [2,3,6,7],by omega,k+1,by omega,?_⟩
  refine pk1 ?_
  rw [← vw9]
  rfl
 ·intro hc
  have hkl:k=8:=by have:=of_decide_eq_false hc;omega
  subst hkl
  refine jm9 ?_
  refine jb0 [2,3] ?_
  (repeat refine jb3 ?_);refine jc3 ?_;(repeat (first|(refine jc4 _ rfl rfl rfl ?_)|(refine jb6 _ (envF _ _ _ _ _) rfl rfl rfl rfl rfl ?_ (hc:=by first|fail))|(refine ja3 rfl (jb5 rfl rfl rfl) ?_)|(refine ja3 rfl (jb8 rfl rfl) ?_)|(refine ja3 rfl (jb1 rfl rfl) ?_)|(refine jc5 rfl rfl ?_)|(refine jb7 rfl rfl rfl rfl ?_)|(refine jb9 _ rfl rfl rfl rfl ?_)|(refine jc6 _ rfl rfl rfl ?_)));(refine ja1 ?_;refine jb0 [2] ?_)
  refine jq5 ?_;refine ⟨_,_,by simp only [outD,resD,outV,ja4,List.all,js0,jc0,implies_true,setD,bslF,jf8,je6,List.zip_cons_cons,List.zip_nil_right,List.zip_nil_left,jc1,rng0,rng1,rng2,rng3,rng4,rng5,rng6,rng7,rng8,List.getD_cons_zero,List.getD_cons_succ,Nat.reduceLeDiff,decide_true,decide_false,List.all_cons,List.all_nil,dqF,nilF,jh9,jc7,Op.operands,Call.operands,evD,cD,gip,upd,look,List.map,List.map_cons,List.map_nil,binF,binI,shI,binS,unF,wD,kLo,kHi,kMod,jh8,jh1,jh2,jg0,jf9,jg2,jg1,lenF,lenD,jf2,je9,minF,je7,cutL,bndF,sub,nc,aggT,aggB,scB,tnth,elems,L_B,L_mk,List.getElem?_cons_zero,List.getElem?_cons_succ,reduceIte,reduceCtorEq,Option.isSome,List.toList_toArray,Nat.reduceAdd,Nat.reduceSub,Nat.reduceMul,Nat.reduceEqDiff,Nat.reduceLT,Nat.reduceBEq,mkF,mkG,Bool.and_true,Bool.true_and,Bool.and_false,Bool.false_and,beq_self_eq_true,mkC,Int.reduceToNat,Int.toNat_natCast,Int.reduceAdd,Int.reduceSub,Int.reduceMul,Nat.zero_add,Nat.add_zero,Nat.mul_one,and_true,true_and,Option.getD_some,Option.getD_none,u32D,u8D,iD,bD,strD,jf7,jh5,jf5,jf3,jf6,je4,jf0,jh6,jg9,ja9,tyT];exact rfl,?_,rfl,rfl,?_⟩
  ·trivial
  ·exact vs7 fun i hi=>by rw [qu7 V i hi];exact if_pos (by omega)
def ktD:D:=.arr .u32 64 (fun i=>((kT.getD i 0).toNat:Int))
theorem kk4:ktD = .arr .u32 64 (fun i=>((kT.getD i 0).toNat:Int)):=rfl
set_option maxRecDepth 20000 in
set_option maxHeartbeats 8000000 in
theorem ke2:PC (ja9 Tryz.prog) 113 [] ktD:=by
 have hX:=and_true;refine ju8 Tryz.func113 rfl Tryz.ntmps113 Tryz.results113 rfl rfl (by exact dz8) ?_;intro w0 A
 (repeat refine jb3 ?_);refine jc3 ?_;(repeat (first|(refine jc4 _ rfl rfl rfl ?_)|(refine jb6 _ (envC _ _ _ _ _) rfl rfl rfl rfl rfl ?_ (hc:=by first|fail))|(refine ja3 rfl (jb5 rfl rfl rfl) ?_)|(refine ja3 rfl (jb8 rfl rfl) ?_)|(refine ja3 rfl (jb1 rfl rfl) ?_)|(refine jc5 rfl rfl ?_)|(refine jb7 rfl rfl rfl rfl ?_)|(refine jb9 _ rfl rfl rfl rfl ?_)|(refine jc6 _ rfl rfl rfl ?_)));(refine ja1 ?_;refine jb0 [0] ?_)
 (repeat refine jb3 ?_);refine jc3 ?_
 refine DR_q _ rfl rfl rfl (by simp only [jc0,implies_true,setD,bslF,jf8,je6,List.zip_cons_cons,List.zip_nil_right,List.zip_nil_left,jc1,rng0,rng1,rng2,rng3,rng4,rng5,rng6,rng7,rng8,List.getD_cons_zero,List.getD_cons_succ,Nat.reduceLeDiff,decide_true,decide_false,List.all_cons,List.all_nil,dqF,nilF,jh9,jc7,Op.operands,Call.operands,evD,cD,gip,upd,look,List.map,List.map_cons,List.map_nil,binF,binI,shI,binS,unF,wD,kLo,kHi,kMod,jh8,jh1,jh2,jg0,jf9,jg2,jg1,lenF,lenD,jf2,je9,minF,je7,cutL,bndF,sub,nc,aggT,aggB,scB,tnth,elems,L_B,L_mk,List.getElem?_cons_zero,List.getElem?_cons_succ,reduceIte,reduceCtorEq,Option.isSome,List.toList_toArray,Nat.reduceAdd,Nat.reduceSub,Nat.reduceMul,Nat.reduceEqDiff,Nat.reduceLT,Nat.reduceBEq,mkF,mkG,Bool.and_true,Bool.true_and,Bool.and_false,Bool.false_and,beq_self_eq_true,mkC,Int.reduceToNat,Int.toNat_natCast,Int.reduceAdd,Int.reduceSub,Int.reduceMul,Nat.zero_add,Nat.add_zero,Nat.mul_one,and_true,true_and,Option.getD_some,Option.getD_none,setD,ja9,tyT];exact rfl) ?_ ?_
 ·exact ⟨by simp,rfl⟩
 (repeat (first|(refine jc4 _ rfl rfl rfl ?_)|(refine jb6 _ (envC _ _ _ _ _) rfl rfl rfl rfl rfl ?_ (hc:=by first|fail))|(refine ja3 rfl (jb5 rfl rfl rfl) ?_)|(refine ja3 rfl (jb8 rfl rfl) ?_)|(refine ja3 rfl (jb1 rfl rfl) ?_)|(refine jc5 rfl rfl ?_)|(refine jb7 rfl rfl rfl rfl ?_)|(refine jb9 _ rfl rfl rfl rfl ?_)|(refine jc6 _ rfl rfl rfl ?_)));(refine ja1 ?_;refine jb0 [0] ?_)
 refine jq5 ?_;refine ⟨_,_,by exact dz9,?_,?_⟩
 ·trivial
 ·refine km8 ?_
  decide +kernel
def blk (l:List UInt8) (i:Nat):List UInt8:=(l.drop (64*i)).take 64
def runV (l:List UInt8) (V:Nat→UInt32):Nat→Nat→UInt32
 | 0=>V
 | i+1=>addS (blk l i) (runV l V i)
def V0:Nat→UInt32:=fun i=>([0x6a09e667,0xbb67ae85,0x3c6ef372,0xa54ff53a,0x510e527f,0x9b05688c,0x1f83d9ab,0x5be0cd19]:List UInt32).getD i 0
def sumP (l:List UInt8):List UInt8:=sumB (runV (jo4 (l.drop (64*(l.length / 64))) l.length) (runV l V0 (l.length / 64)) ((jo4 (l.drop (64*(l.length / 64))) l.length).length / 64))
theorem vb5 (l:List UInt8) (n:Nat):(jo4 l n).length=l.length+1+padZ (l.length+1)+8:=by simp [jo4,jz4]
theorem qb0 (l:List UInt8) (n:Nat):(jo4 l n).length % 64=0:=by rw [vb5];unfold padZ;omega
theorem kx0 {l:List UInt8}{i:Nat} (h:64*i+64≤l.length):(blk l i).length=64:=by simp [blk];omega
theorem wf5:(fun i=>(([0x6a09e667,0xbb67ae85,0x3c6ef372,0xa54ff53a,0x510e527f,0x9b05688c,0x1f83d9ab,0x5be0cd19]:List UInt32).getD i 0).toNat:Nat→Int)=vf V0:=rfl

set_option maxHeartbeats 4000000 in
theorem ko0 (l:List UInt8) (hl:l.length≤1048576):PC (ja9 Tryz.prog) 44 [strD l] (jd1 (sumP l)):=by
 have hX:=and_true;refine ju8 Tryz.func44 rfl Tryz.ntmps44 Tryz.results44 rfl rfl (by exact dz8) ?_;intro w0 A
 have hX:=And.intro jo7 (And.intro js3 (And.intro jh3 (wf5)))
 (repeat refine jb3 ?_);refine jc3 ?_;(repeat (first|(refine jc4 _ rfl rfl rfl ?_)|(refine jb6 _ (envC _ _ _ _ _) rfl rfl rfl rfl rfl ?_ (hc:=by first|fail))|(refine ja3 rfl (jb5 rfl rfl rfl) ?_)|(refine ja3 rfl (jb8 rfl rfl) ?_)|(refine ja3 rfl (jb1 rfl rfl) ?_)|(refine jc5 rfl rfl ?_)|(refine jb7 rfl rfl rfl rfl ?_)|(refine jb9 _ rfl rfl rfl rfl ?_)|(refine jc6 _ rfl rfl rfl ?_)));(refine ja1 ?_;refine jb0 [0,2] ?_)
 (repeat refine jb3 ?_);refine jc3 ?_;(repeat (first|(refine jc4 _ rfl rfl rfl ?_)|(refine jb6 _ (envC _ _ _ _ _) rfl rfl rfl rfl rfl ?_ (hc:=by first|fail))|(refine ja3 rfl (jb5 rfl rfl rfl) ?_)|(refine ja3 rfl (jb8 rfl rfl) ?_)|(refine ja3 rfl (jb1 rfl rfl) ?_)|(refine jc5 rfl rfl ?_)|(refine jb7 rfl rfl rfl rfl ?_)|(refine jb9 _ rfl rfl rfl rfl ?_)|(refine jc6 _ rfl rfl rfl ?_)));(refine ja1 ?_;refine jb0 [0,2,3] ?_)
 (repeat refine jb3 ?_);refine jc3 ?_;(repeat (first|(refine jc4 _ rfl rfl rfl ?_)|(refine jb6 _ (envC _ _ _ _ _) rfl rfl rfl rfl rfl ?_ (hc:=by first|fail))|(refine ja3 rfl (jb5 rfl rfl rfl) ?_)|(refine ja3 rfl (jb8 rfl rfl) ?_)|(refine ja3 rfl (jb1 rfl rfl) ?_)|(refine jc5 rfl rfl ?_)|(refine jb7 rfl rfl rfl rfl ?_)|(refine jb9 _ rfl rfl rfl rfl ?_)|(refine jc6 _ rfl rfl rfl ?_)));(refine ja1 ?_;refine jb0 [0,2,3,4] ?_)
 (repeat refine jb3 ?_);refine jf4 ?_
 refine jn0 (fun m st=>∃i,i+m=l.length / 64∧st=mk [(0,strD (l.drop (64*i))),(2,.ptr 0 0),(3,.ptr 1 0),(4,iD (l.length:Int))] [some (.one (.arr .u8 32 (fun _=>0))),some (.one (.arr .u32 8 (vf (runV l V0 i))))]) (l.length / 64) ⟨_,Weak.refl _ _,0,by omega,?_⟩ ?_
 ·simp [iD,strD,runV]
 rintro m _ ⟨i,hi,rfl⟩
 have hdl:(l.drop (64*i)).length=l.length-64*i:=by simp
 (repeat refine jb3 ?_);refine jc3 ?_;(repeat (first|(refine jc4 _ rfl rfl rfl ?_)|(refine jb6 _ (envC _ _ _ _ _) rfl rfl rfl rfl rfl ?_ (hc:=by first|fail))|(refine ja3 rfl (jb5 rfl rfl rfl) ?_)|(refine ja3 rfl (jb8 rfl rfl) ?_)|(refine ja3 rfl (jb1 rfl rfl) ?_)|(refine jc5 rfl rfl ?_)|(refine jb7 rfl rfl rfl rfl ?_)|(refine jb9 _ rfl rfl rfl rfl ?_)|(refine jc6 _ rfl rfl rfl ?_)));(refine ja1 ?_;refine jb0 [0,2,3,4,11] ?_)
 (repeat refine jb3 ?_);refine jm8 (by simp only [evD,mk,look,reduceIte,Nat.reduceEqDiff];exact rfl) ?_ ?_
 ·intro hc
  have hil:64*i+64≤l.length:=by
   have h1:=of_decide_eq_true hc
   rw [hdl] at h1
   omega
  refine jn1 ?_
  refine jb0 [0,2,3,4] ?_
  refine jb3 ?_
  refine jf4 ?_
  have hbl:(blk l i).length=64:=kx0 hil
  refine jc3 ?_;(refine jc4 _ rfl rfl rfl ?_);(refine jc4 _ rfl rfl rfl ?_)
  (refine DR_c _ rfl rfl rfl (by exact dz11) (qv2 rfl rfl rfl ?_) ?_)
  ·simp only [L_B,List.length_take];omega
  (refine ja3 rfl (jd9 (envC _ _ _ _ _) rfl rfl rfl (hc:=by first|exact qe6 (blk l i) hbl (runV l V0 i))) ?_)
  (refine ja1 ?_;refine jb0 [0,2,3,4] ?_)
  refine jc3 ?_;(repeat (first|(refine jc4 _ rfl rfl rfl ?_)|(refine jb6 _ (envC _ _ _ _ _) rfl rfl rfl rfl rfl ?_ (hc:=by first|exact qe6 (blk l i) hbl (runV l V0 i)))|(refine ja3 rfl (jb5 rfl rfl rfl) ?_)|(refine ja3 rfl (jb8 rfl rfl) ?_)|(refine ja3 rfl (jb1 rfl rfl) ?_)|(refine jc5 rfl rfl ?_)|(refine jb7 rfl rfl rfl rfl ?_)|(refine jb9 _ rfl rfl rfl rfl ?_)|(refine jc6 _ rfl rfl rfl ?_)));refine ja1 ?_
  refine ⟨_,m-1,Weak.pick [0,2,3,4],by omega,i+1,by omega,?_⟩
  refine pk1 ?_
  rw [show 64*(i+1)=64*i+64 by omega,← List.drop_drop]
  rfl
 ·intro hc
  have hil:i=l.length / 64:=by
   have h1:=of_decide_eq_false hc
   rw [hdl] at h1
   omega
  subst hil
  refine jm9 ?_
  refine jb0 [0,2,3,4] ?_
  (repeat refine jb3 ?_);refine jc3 ?_;(repeat (first|(refine jc4 _ rfl rfl rfl ?_)|(refine jb6 _ (envC _ _ _ _ _) rfl rfl rfl rfl rfl ?_ (hc:=by first|exact vb6 _ l.length (by rw [hdl];omega) (by omega)))|(refine ja3 rfl (jb5 rfl rfl rfl) ?_)|(refine ja3 rfl (jb8 rfl rfl) ?_)|(refine ja3 rfl (jb1 rfl rfl) ?_)|(refine jc5 rfl rfl ?_)|(refine jb7 rfl rfl rfl rfl ?_)|(refine jb9 _ rfl rfl rfl rfl ?_)|(refine jc6 _ rfl rfl rfl ?_)));(refine ja1 ?_;refine jb0 [2,3,5] ?_)
  generalize hF:jo4 (l.drop (64*(l.length / 64))) l.length=F
  have hF64:F.length % 64=0:=by rw [← hF];exact qb0 _ _
  (repeat refine jb3 ?_);refine jf4 ?_
  refine jn0 (fun m st=>∃j,j+m=F.length / 64∧st=mk [(2,.ptr 0 0),(3,.ptr 1 0),(5,jn3 (F.drop (64*j)))] [some (.one (.arr .u8 32 (fun _=>0))),some (.one (.arr .u32 8 (vf (runV F (runV l V0 (l.length / 64)) j))))]) (F.length / 64) ⟨_,Weak.refl _ _,0,by omega,?_⟩ ?_
  ·simp [jn3,runV]
  clear m hi hc
  rintro m _ ⟨j,hj,rfl⟩
  have hdF:(F.drop (64*j)).length=F.length-64*j:=by simp
  (repeat refine jb3 ?_);refine jc3 ?_;(repeat (first|(refine jc4 _ rfl rfl rfl ?_)|(refine jb6 _ (envC _ _ _ _ _) rfl rfl rfl rfl rfl ?_ (hc:=by first|exact vb6 _ l.length (by rw [hdl];omega) (by omega)))|(refine ja3 rfl (jb5 rfl rfl rfl) ?_)|(refine ja3 rfl (jb8 rfl rfl) ?_)|(refine ja3 rfl (jb1 rfl rfl) ?_)|(refine jc5 rfl rfl ?_)|(refine jb7 rfl rfl rfl rfl ?_)|(refine jb9 _ rfl rfl rfl rfl ?_)|(refine jc6 _ rfl rfl rfl ?_)));(refine ja1 ?_;refine jb0 [2,3,5,23] ?_)
  (repeat refine jb3 ?_);refine jm8 (by simp only [evD,mk,look,reduceIte,Nat.reduceEqDiff];exact rfl) ?_ ?_
  ·intro hc
   have hjl:64*j+64≤F.length:=by
    have h1:=of_decide_eq_true hc
    rw [hdF] at h1
    omega
   refine jn1 ?_
   refine jb0 [2,3,5] ?_
   refine jb3 ?_
   refine jf4 ?_
   have hbl:(blk F j).length=64:=kx0 hjl
   refine jc3 ?_;(refine jc4 _ rfl rfl rfl ?_);(refine jc4 _ rfl rfl rfl ?_)
   (refine ja3 rfl (jd9 (envC _ _ _ _ _) rfl rfl rfl (hc:=by first|exact qe6 (blk F j) hbl _)) ?_)
   (refine ja1 ?_;refine jb0 [2,3,5] ?_)
   refine jc3 ?_;(repeat (first|(refine jc4 _ rfl rfl rfl ?_)|(refine jb6 _ (envC _ _ _ _ _) rfl rfl rfl rfl rfl ?_ (hc:=by first|exact qe6 (blk F j) hbl _))|(refine ja3 rfl (jb5 rfl rfl rfl) ?_)|(refine ja3 rfl (jb8 rfl rfl) ?_)|(refine ja3 rfl (jb1 rfl rfl) ?_)|(refine jc5 rfl rfl ?_)|(refine jb7 rfl rfl rfl rfl ?_)|(refine jb9 _ rfl rfl rfl rfl ?_)|(refine jc6 _ rfl rfl rfl ?_)));refine ja1 ?_
   refine ⟨_,m-1,Weak.pick [2,3,5],by omega,j+1,by omega,?_⟩
   refine pk1 ?_
   rw [show 64*(j+1)=64*j+64 by omega,← List.drop_drop]
   rfl
  ·intro hc
   have hjl:j=F.length / 64:=by
    have h1:=of_decide_eq_false hc
    rw [hdF] at h1
    omega
   subst hjl
   refine jm9 ?_
   refine jb0 [2,3] ?_
   (repeat refine jb3 ?_);refine jc3 ?_;(refine ja3 rfl (jd9 (envC _ _ _ _ _) rfl rfl rfl (hc:=by first|exact qq9 _)) ?_);(repeat (first|(refine jc4 _ rfl rfl rfl ?_)|(refine jb6 _ (envC _ _ _ _ _) rfl rfl rfl rfl rfl ?_ (hc:=by first|exact qq9 _))|(refine ja3 rfl (jb5 rfl rfl rfl) ?_)|(refine ja3 rfl (jb8 rfl rfl) ?_)|(refine ja3 rfl (jb1 rfl rfl) ?_)|(refine jc5 rfl rfl ?_)|(refine jb7 rfl rfl rfl rfl ?_)|(refine jb9 _ rfl rfl rfl rfl ?_)|(refine jc6 _ rfl rfl rfl ?_)));(refine ja1 ?_;refine jb0 [2] ?_)
   refine jq5 ?_;refine ⟨_,_,by exact dz9,?_,?_⟩
   ·trivial
   ·rw [← hF]
    exact ja2 rfl
end Go.Proofs.YtmlbhiicmpgjiaaGreatDoor
