/- States: found, asked for. States: the cells of a kind, one by one; keys, memberships. -/
import Derived.Test.YtpnnjfclmieihaaDoorSPD
import Derived.Test.YtpnnjfclmieihaaDoorSVD
import Derived.Test.YtpnnjfclmieihaaDoorSVF
import Derived.Test.YtpnnjfclmieihaaDoorSPJ
set_option linter.unusedSimpArgs false
set_option linter.unusedVariables false
set_option maxRecDepth 10000
namespace Go.Proofs.YtpnnjfclmieihaaDoor
open Go.RowKit
def fiC (s:List Cl) (k:Nat) (y:List UInt8):D:=.tup (.cons (.v (.int .i64 (posC s (keyC k y):Int))) (.cons (.v (.bool (hasC s k y))) .nil))
theorem jr3:evtD evz = .cons (.v (.string (B []))) (.cons (.v (.string (B []))) (.cons (.v (.int .u8 0)) (.cons (.v (.string (B []))) (.cons (.v (.string (B []))) (.cons (.v (.int .i64 0)) .nil))))):=rfl
theorem ko9 (s:List Cl) (k:Nat) (y:List UInt8) (hc:chkC s=0):PC (jb7 Tryd.prog) 57 [ccD s,kinD k,strD y] (fiC s k y):=by
 obtain ⟨h1,h2⟩:=jh1 hc
 have ks:=kt7 s (keyC k y) (posC s (keyC k y)) h1 (jj4 _ _) (jk4 h2 _)
 have e:serC s (keyC k y) (posC s (keyC k y))=fiC s k y:=by
  unfold serC fiC hasC
  rw [qi3,show decide ((posC s (keyC k y):Int)<(s.length:Int))=decide (posC s (keyC k y)<s.length) by rw [decide_eq_decide];omega]
  rfl
 rw [e] at ks
 unfold fiC at *
 generalize hasC s k y=b at *
 generalize posC s (keyC k y)=p at *
 have hX:=and_true;refine jb4 Tryd.func57 rfl Tryd.ntmps57 Tryd.results57 rfl (by simp only [jb5,Nat.reduceAdd,u32D,u8D,iD,bD,strD,ja9,jb1,ja5,ja4,ja6,ja8,ja7,jb3,jb2];exact rfl) ?_;intro w0 A
 have hX:=And.intro jd7 (jb8)
 have hK:=And.intro (ks) trivial;(repeat refine ja0 ?_);refine rgx [0,1,2] ?_
 (repeat refine ja0 ?_);refine rgx [6,7] ?_
 (repeat refine ja0 ?_);refine ja3 ?_;refine retx ?_;(try dsimp only [outV,ja2])
 exact ja1 rfl
def eeD (r:Ev×Int):D:=.tup (.cons (evtD r.1) (.cons (iD r.2) .nil))
def getC (s:List Cl) (k:Nat) (y:List UInt8):Ev×Int:=if chkC s=0 then (match lkC s k y with|some e=>(e,0)|none=>(evz,3)) else (evz,2)
theorem kn1 {s:List Cl}{k:Nat}{y:List UInt8} (h:chkC s≠0):getC s k y=(evz,2):=if_neg h
set_option maxHeartbeats 8000000 in
theorem js1 (s:List Cl) (k:Nat) (y:List UInt8) (hs:ccB s):PC (jb7 Tryd.prog) 30 [ccD s,kinD k,strD y] (eeD (getC s k y)):=by
 have kc:=jj7 s hs
 by_cases hc:chkC s=0
 ·have kf:=ko9 s k y hc
  obtain ⟨h1,h2⟩:=jh1 hc
  have hl:=qn0 h2 k y
  rw [hc] at kc
  unfold fiC at kf
  cases hi:hasC s k y
  ·rw [hi] at kf hl
   rw [show getC s k y=(evz,3) by unfold getC;rw [if_pos hc,hl];rfl]
   generalize posC s (keyC k y)=p at *
   have hX:=and_true;refine jb4 Tryd.func30 rfl Tryd.ntmps30 Tryd.results30 rfl (by simp only [jb5,Nat.reduceAdd,u32D,u8D,iD,bD,strD,ja9,jb1,ja5,ja4,ja6,ja8,ja7,jb3,jb2];exact rfl) ?_;intro w0 A
   have hX:=And.intro jd7 (jb8)
   have hK:=And.intro (kc) (And.intro (kf) trivial);(repeat refine ja0 ?_);refine rgx [0,1,2,6] ?_
   (repeat refine ja0 ?_);refine rgx [0,1,2,6,8] ?_
   (repeat refine ja0 ?_);refine rgx [0,1,2,6,8,14] ?_
   (repeat refine ja0 ?_);refine iffx ?_
   (repeat refine ja0 ?_);refine jb0 ?_
   (repeat refine ja0 ?_);refine rgx [0,6,9,10] ?_
   (repeat refine ja0 ?_);refine rgx [0,6,9,25] ?_
   (repeat refine ja0 ?_);refine iftx ?_
   (repeat refine ja0 ?_);refine rgx [6,7] ?_
   (repeat refine ja0 ?_);refine ja3 ?_;refine retx ?_;(try dsimp only [outV,ja2])
   exact ja1 rfl
  ·rw [hi] at kf hl
   rw [show getC s k y=((s.getD (posC s (keyC k y)) clz).e,0) by unfold getC;rw [if_pos hc,hl];rfl]
   have hp:posC s (keyC k y)<s.length:=by
    unfold hasC at hi
    rw [Bool.and_eq_true] at hi
    exact of_decide_eq_true hi.1
   generalize posC s (keyC k y)=p at *
   have hX:=and_true;refine jb4 Tryd.func30 rfl Tryd.ntmps30 Tryd.results30 rfl (by simp only [jb5,Nat.reduceAdd,u32D,u8D,iD,bD,strD,ja9,jb1,ja5,ja4,ja6,ja8,ja7,jb3,jb2];exact rfl) ?_;intro w0 A
   have hX:=And.intro jd7 (And.intro jb8 (jd2))
   have hK:=And.intro (kc) (And.intro (kf) trivial);(repeat refine ja0 ?_);refine rgx [0,1,2,6] ?_
   (repeat refine ja0 ?_);refine rgx [0,1,2,6,8] ?_
   (repeat refine ja0 ?_);refine rgx [0,1,2,6,8,14] ?_
   (repeat refine ja0 ?_);refine iffx ?_
   (repeat refine ja0 ?_);refine jb0 ?_
   (repeat refine ja0 ?_);refine rgx [0,6,9,10] ?_
   (repeat refine ja0 ?_);refine rgx [0,6,9,25] ?_
   (repeat refine ja0 ?_);refine iffx ?_
   (repeat refine ja0 ?_);refine jb0 ?_
   (repeat refine ja0 ?_);refine rgx [6,7] ?_
   (repeat refine ja0 ?_);refine ja3 ?_;refine retx ?_;(try dsimp only [outV,ja2])
   exact ja1 rfl
 ·rw [kn1 hc]
  rw [jp5 hc] at kc
  have hX:=and_true;refine jb4 Tryd.func30 rfl Tryd.ntmps30 Tryd.results30 rfl (by simp only [jb5,Nat.reduceAdd,u32D,u8D,iD,bD,strD,ja9,jb1,ja5,ja4,ja6,ja8,ja7,jb3,jb2];exact rfl) ?_;intro w0 A
  have hX:=And.intro jd7 (jb8)
  have hK:=And.intro (kc) trivial;(repeat refine ja0 ?_);refine rgx [0,1,2,6] ?_
  (repeat refine ja0 ?_);refine rgx [0,1,2,6,8] ?_
  (repeat refine ja0 ?_);refine rgx [0,1,2,6,8,14] ?_
  (repeat refine ja0 ?_);refine iftx ?_
  (repeat refine ja0 ?_);refine rgx [6,7] ?_
  (repeat refine ja0 ?_);refine ja3 ?_;refine retx ?_;(try dsimp only [outV,ja2])
  exact ja1 rfl
theorem jl3 {c:Cl}{k:Nat}{y:List UInt8}:eqC c k y=(decide (c.k=k)&&decide (c.y=y)):=by
 unfold eqC
 rw [Bool.eq_iff_iff,Bool.and_eq_true,decide_eq_true_eq,decide_eq_true_eq,decide_eq_true_eq]
set_option maxHeartbeats 8000000 in
theorem qj0 (s:List Cl) (k:Nat) (y:List UInt8) (hs:ccB s):PC (jb7 Tryd.prog) 31 [ccD s,kinD k,strD y] (eeD (getC s k y)):=by
 have kc:=js0 s hs
 by_cases hc:chkC s=0
 ·rw [hc] at kc
  obtain ⟨h1,h2⟩:=jh1 hc
  have hX:=and_true;refine jb4 Tryd.func31 rfl Tryd.ntmps31 Tryd.results31 rfl (by simp only [jb5,Nat.reduceAdd,u32D,u8D,iD,bD,strD,ja9,jb1,ja5,ja4,ja6,ja8,ja7,jb3,jb2];exact rfl) ?_;intro w0 A
  have hX:=And.intro jd7 (And.intro jb8 (jr3))
  have hK:=And.intro (kc) trivial;(repeat refine ja0 ?_);refine rgx [0,1,2,6] ?_
  (repeat refine ja0 ?_);refine rgx [0,1,2,6,12] ?_
  (repeat refine ja0 ?_);refine iffx ?_
  (repeat refine ja0 ?_);refine jb0 ?_
  (repeat refine ja0 ?_);refine rgx [1,2,6,14,15,16] ?_
  (repeat refine ja0 ?_);refine jb6 ?_
  (repeat refine ja0 ?_)
  refine je9 (fun m _ st=>∃i,i+m=s.length∧s.find? (fun c=>eqC c k y)=(s.drop i).find? (fun c=>eqC c k y)∧st=mk [(1,.v (.int .u8 (k:Int))),(2,strD y),(6,.ptr 0 0),(14,.sl s clz clD),(15,iD (s.length:Int)),(16,iD (i:Int))] [some (.one (evtD evz))]) s.length ⟨_,WeakX.refl _,0,by omega,rfl,rfl⟩ ?_
  rintro m _ _ ⟨i,hi,hI,rfl⟩
  have hX:=And.intro jr3 (and_true)
  (repeat refine ja0 ?_);refine rgx [1,2,6,14,15,16,17] ?_
  (repeat refine ja0 ?_);refine ifx ?_ ?_
  ·intro hc2;(try simp only [hcs,ne_eq] at hc2)
   have hin:i<s.length:=by omega
   rw [jr4 hin] at hI
   have hand:=@jl3 (s.getD i clz) k y
   (repeat refine ja0 ?_);refine jb0 ?_
   (repeat refine ja0 ?_);refine jb6 ?_
   (repeat refine ja0 ?_);refine rgx [1,2,6,9,14,15,16] ?_
   generalize s.getD i clz=c at *
   by_cases hk:c.k=k
   ·have d1:decide ((c.k:Int)=(k:Int))=true:=decide_eq_true (by omega)
    rw [decide_eq_true hk,Bool.true_and] at hand
    have hX:=And.intro jd2 (And.intro jb8 (d1))
    (repeat refine ja0 ?_);refine rggx [1,2,6,9,14,15,16,29] ?_
    (repeat refine ja0 ?_);refine ifx ?_ ?_
    ·intro hc3
     have he:eqC c k y=true:=by rw [hand];exact decide_eq_true (@of_decide_eq_true _ _ hc3)
     rw [if_pos he] at hI
     rw [show getC s k y=(c.e,0) by unfold getC lkC;rw [if_pos hc,hI];rfl]
     have hX:=And.intro jd2 (jr3)
     (repeat refine ja0 ?_);refine rgx [6,7] ?_
     (repeat refine ja0 ?_);refine ja3 ?_;refine retx ?_;(try dsimp only [outV,ja2])
     exact ja1 rfl
    ·intro hc3
     have he:eqC c k y=false:=by rw [hand];exact decide_eq_false (@of_decide_eq_false _ _ hc3)
     rw [he,if_neg (by decide)] at hI
     (repeat refine ja0 ?_);refine jb0 ?_
     (repeat refine ja0 ?_);refine rgx [1,2,6,14,15,16] ?_
     exact ⟨_,m-1,WeakX.take 1 rfl rfl rfl,by omega,i+1,by omega,hI,rfl⟩
   ·have d1:decide ((c.k:Int)=(k:Int))=false:=decide_eq_false (by omega)
    rw [decide_eq_false hk,Bool.false_and] at hand
    rw [hand,if_neg (by decide)] at hI
    have hX:=And.intro jd2 (And.intro jb8 (d1))
    (repeat refine ja0 ?_);refine rggx [1,2,6,9,14,15,16,29] ?_
    (repeat refine ja0 ?_);refine iffx ?_
    (repeat refine ja0 ?_);refine jb0 ?_
    (repeat refine ja0 ?_);refine rgx [1,2,6,14,15,16] ?_
    exact ⟨_,m-1,WeakX.take 1 rfl rfl rfl,by omega,i+1,by omega,hI,rfl⟩
  ·intro hc2;(try simp only [hcs,ne_eq] at hc2)
   obtain rfl:i=s.length:=by omega
   rw [List.drop_length] at hI
   rw [show getC s k y=(evz,3) by unfold getC lkC;rw [if_pos hc,hI];rfl]
   have hX:=And.intro jr3 (and_true)
   (repeat refine ja0 ?_);refine jd3 ?_
   (repeat refine ja0 ?_);refine rgx [6,7] ?_
   (repeat refine ja0 ?_);refine ja3 ?_;refine retx ?_;(try dsimp only [outV,ja2])
   exact ja1 rfl
 ·rw [kn1 hc]
  rw [jp5 hc] at kc
  have hX:=and_true;refine jb4 Tryd.func31 rfl Tryd.ntmps31 Tryd.results31 rfl (by simp only [jb5,Nat.reduceAdd,u32D,u8D,iD,bD,strD,ja9,jb1,ja5,ja4,ja6,ja8,ja7,jb3,jb2];exact rfl) ?_;intro w0 A
  have hX:=And.intro jd7 (jb8)
  have hK:=And.intro (kc) trivial;(repeat refine ja0 ?_);refine rgx [0,1,2,6] ?_
  (repeat refine ja0 ?_);refine rgx [0,1,2,6,12] ?_
  (repeat refine ja0 ?_);refine iftx ?_
  (repeat refine ja0 ?_);refine rgx [6,7] ?_
  (repeat refine ja0 ?_);refine ja3 ?_;refine retx ?_;(try dsimp only [outV,ja2])
  exact ja1 rfl
def jd1 (k:Nat) (c:Cl):Bool:=decide (c.k=k)
def itC (c:Cl):List D:=[strD c.y,evtD c.e]
def flC (s:List Cl) (k j:Nat):List Cl:=(s.take j).filter (jd1 k)
theorem jz8 {s:List Cl}{j:Nat} (hj:j<s.length):s.take (j+1)=s.take j++[s.getD j clz]:=by
 rw [List.take_succ_eq_append_getElem hj,List.getD_eq_getElem?_getD,List.getElem?_eq_getElem hj,Option.getD_some]
theorem ku3 {s:List Cl}{k j:Nat} (hj:j<s.length):flC s k (j+1)=if jd1 k (s.getD j clz)=true then flC s k j++[s.getD j clz] else flC s k j:=by
 unfold flC
 rw [jz8 hj,List.filter_append]
 by_cases h:jd1 k (s.getD j clz)=true
 ·rw [if_pos h,List.filter_cons_of_pos h];rfl
 ·rw [if_neg h,List.filter_cons_of_neg h];simp
theorem qh1 (s:List Cl) (k j:Nat):flC s k j <+: s.filter (jd1 k):=(List.take_prefix j s).filter _
theorem kn0 (s:List Cl) (k:Nat):flC s k s.length=s.filter (jd1 k):=by unfold flC;rw [List.take_length]
theorem qd4 (s:List Cl) (k:Nat):PC (jb7 Tryd.prog) 63 [ccD s,kinD k] (.fn 82 (jf9 [.ip (ccD s),.ip (kinD k)])):=by
 have hX:=and_true;refine jb4 Tryd.func63 rfl Tryd.ntmps63 Tryd.results63 rfl (by simp only [jb5,Nat.reduceAdd,u32D,u8D,iD,bD,strD,ja9,jb1,ja5,ja4,ja6,ja8,ja7,jb3,jb2];exact rfl) ?_;intro w0 A
 have hX:=And.intro jd7 (jb8)
 (repeat refine ja0 ?_);refine rgx [2,3] ?_
 (repeat refine ja0 ?_);refine rgx [4] ?_
 (repeat refine ja0 ?_);refine ja3 ?_;refine retx ?_;(try dsimp only [outV,ja2])
 exact jz2 rfl rfl rfl
set_option maxHeartbeats 16000000 in
theorem sofG (s:List Cl) (k':Nat) (hn:s.length≤140737488351232):SeqX (jb7 Tryd.prog) 82 (jf9 [.ip (ccD s),.ip (kinD k')]) ((s.filter (jd1 k')).map itC):=by
 have hX:=and_true;refine qf5 Tryd.func82 rfl Tryd.ntmps82 Tryd.results82 rfl rfl rfl ?_;intro k;refine jz0 (by simp only [jb5,Nat.reduceAdd,u32D,u8D,iD,bD,strD,ja9,jb1,ja5,ja4,ja6,ja8,ja7,jb3,jb2];exact rfl) ?_
 have hX:=And.intro jd7 (jb8)
 (repeat refine ja0 ?_);refine rgx [0,2,6,7,8] ?_
 (repeat refine ja0 ?_);refine jb6 ?_
 (repeat refine ja0 ?_)
 refine je9 (fun m g st=>∃j,j+m=s.length∧g=((flC s k' j).map itC,true)∧st=mk [(0,.v (.func (.yield k.l) #[] #[])),(2,.ip (kinD k')),(6,.sl s clz clD),(7,iD (s.length:Int)),(8,iD (j:Int))] []) s.length ⟨_,WeakX.refl _,0,by omega,rfl,rfl⟩ ?_
 rintro m _ _ ⟨j,hj,rfl,rfl⟩
 have hX:=And.intro jd7 (jb8)
 (repeat refine ja0 ?_);refine rgx [0,2,6,7,8,9] ?_
 (repeat refine ja0 ?_);refine ifx ?_ ?_
 ·intro hc;(try simp only [hcs,ne_eq] at hc)
  have hjn:j<s.length:=by omega
  have hup:=ku3 (k:=k') hjn
  have hpre:=qh1 s k' (j+1)
  rw [hup] at hpre
  generalize hcx:s.getD j clz=c at *
  (repeat refine ja0 ?_);refine jb0 ?_
  (repeat refine ja0 ?_);refine jb6 ?_
  have hX:=And.intro jb8 (hcx)
  (repeat refine ja0 ?_);refine rgx [0,2,5,6,7,8] ?_
  by_cases hk:c.k=k'
  ·have d1:decide ((c.k:Int)=(k':Int))=true:=decide_eq_true (by omega)
   rw [show jd1 k' c=true from decide_eq_true hk,if_pos rfl] at hup hpre
   have hpre2:=hpre.map itC
   rw [List.map_append,show ([c]:List Cl).map itC=[itC c] from rfl] at hpre2
   have hX:=And.intro jd2 (And.intro jb8 (d1))
   (repeat refine ja0 ?_);refine kl0 ?_;refine jp0 10 ?_;intro w0 A S0 f0;simp only [List.take,List.drop];(repeat (first|(refine gtx rfl rfl ?_)|(refine gx ?_)|((with_reducible show DR _ _ _ (_::_) _);first|(refine cx _ (envG _ _ _ _ _ _) rfl rfl rfl rfl rfl ?_ (hc:=by first|fail))  | (refine sx ?_))));refine jb9 ?_
   refine dlgx rfl rfl ?_
   refine kx1 rfl rfl (fun _ _ _ _=>rfl) (fun _ _ _ _=>by simp only [jc2,implies_true,setD,bslF,je0,jd4,List.zip_cons_cons,List.zip_nil_right,List.zip_nil_left,jc1,rng0,rng1,rng2,rng3,rng4,rng5,rng6,rng7,rng8,List.getD_cons_zero,List.getD_cons_succ,Nat.reduceLeDiff,decide_true,decide_false,List.all_cons,List.all_nil,dqF,nilF,jf0,jc3,Op.operands,Call.operands,evD,cD,gip,upd,look,List.map,List.map_cons,List.map_nil,binF,binI,shI,binS,unF,wD,kLo,kHi,kMod,je8,je5,je7,je2,je1,je4,je3,lenF,lenD,jd8,jd6,minF,jd5,cutL,bndF,sub,nc,aggT,aggB,scB,tnth,elems,L_B,L_mk,List.getElem?_cons_zero,List.getElem?_cons_succ,reduceIte,reduceCtorEq,Option.isSome,List.toList_toArray,Nat.reduceAdd,Nat.reduceSub,Nat.reduceMul,Nat.reduceEqDiff,Nat.reduceLT,Nat.reduceBEq,mkF,mkG,Bool.and_true,Bool.true_and,Bool.and_false,Bool.false_and,beq_self_eq_true,mkC,Int.reduceToNat,Int.toNat_natCast,Int.reduceAdd,Int.reduceSub,Int.reduceMul,Nat.zero_add,Nat.add_zero,Nat.mul_one,and_true,true_and,Option.getD_some,Option.getD_none,ne_eq,not_true_eq_false,not_false_eq_true,decide_not,Bool.not_true,Bool.not_false,Int.reduceLT,Int.reduceLE,Int.reduceEq,Int.reduceNe,Int.reduceGT,Int.reduceGE,gt_iff_lt,ge_iff_le,Nat.reduceLT,Nat.reduceLeDiff,u32D,u8D,iD,bD,strD,ja9,jb1,ja5,ja4,ja6,ja8,ja7,jb3,jb2,Array.toList_append,List.cons_append,List.nil_append,hX];exact rfl) rfl ?_ ?_ ?_
   ·exact hpre2
   ·skip
    have hX:=And.intro jb8 (Bool.not_true)
    refine jp0 2 ?_;intro w0 A S0 f0;simp only [List.take,List.drop];(repeat (first|(refine gtx rfl rfl ?_)|(refine gx ?_)|((with_reducible show DR _ _ _ (_::_) _);first|(refine cx _ (envG _ _ _ _ _ _) rfl rfl rfl rfl rfl ?_ (hc:=by first|fail))  | (refine sx ?_))));refine jb9 ?_;refine kd8 [0,2,6,7,8,24] (kl1 ?_)
    (repeat refine ja0 ?_);refine iffx ?_
    (repeat refine ja0 ?_);refine jb0 ?_
    have hX:=And.intro jb8 (and_true)
    (repeat refine ja0 ?_);refine rgx [0,2,6,7,8] ?_
    exact ⟨_,m-1,WeakX.takeP 0 rfl rfl rfl rfl,by omega,j+1,by omega,by rw [hup,List.map_append];rfl,rfl⟩
   ·skip
    have hX:=And.intro jb8 (Bool.not_false)
    refine jp0 2 ?_;intro w0 A S0 f0;simp only [List.take,List.drop];(repeat (first|(refine gtx rfl rfl ?_)|(refine gx ?_)|((with_reducible show DR _ _ _ (_::_) _);first|(refine cx _ (envG _ _ _ _ _ _) rfl rfl rfl rfl rfl ?_ (hc:=by first|fail))  | (refine sx ?_))));refine jb9 ?_;refine kd8 [0,2,6,7,8,24] (kl1 ?_)
    (repeat refine ja0 ?_);refine iftx ?_
    refine ja3 ?_
    exact ⟨.inr rfl,fun h=>by cases h⟩
  ·have d1:decide ((c.k:Int)=(k':Int))=false:=decide_eq_false (by omega)
   rw [show jd1 k' c=false from decide_eq_false hk,if_neg (by decide)] at hup
   have hX:=And.intro jd2 (And.intro jb8 (d1))
   (repeat refine ja0 ?_);refine rggx [0,2,6,7,8,24] ?_
   (repeat refine ja0 ?_);refine iffx ?_
   (repeat refine ja0 ?_);refine jb0 ?_
   have hX:=And.intro jb8 (and_true)
   (repeat refine ja0 ?_);refine rgx [0,2,6,7,8] ?_
   exact ⟨_,m-1,WeakX.takeP 0 rfl rfl rfl rfl,by omega,j+1,by omega,by rw [hup],rfl⟩
 ·intro hc;(try simp only [hcs,ne_eq] at hc)
  obtain rfl:j=s.length:=by omega
  (repeat refine ja0 ?_);refine jd3 ?_
  exact ⟨.inl rfl,fun _=>by rw [kn0]⟩
def jf7 (s:List Cl) (k:Nat):List (List UInt8):=(s.filter (jd1 k)).map Cl.y
theorem qa5 (l:List Cl):l.map (fun c=>strD c.y)=(l.map Cl.y).map strD:=by rw [List.map_map];rfl
set_option maxHeartbeats 16000000 in
theorem kp1 (s:List Cl) (k:Nat) (hn:s.length≤2199023255552):PC (jb7 Tryd.prog) 33 [ccD s,kinD k] (.sl (jf7 s k) [] strD):=by
 have ko:=qd4 s k
 have hfl:(s.filter (jd1 k)).length≤s.length:=List.length_filter_le _ _
 have hX:=and_true;refine jb4 Tryd.func33 rfl Tryd.ntmps33 Tryd.results33 rfl (by simp only [jb5,Nat.reduceAdd,u32D,u8D,iD,bD,strD,ja9,jb1,ja5,ja4,ja6,ja8,ja7,jb3,jb2];exact rfl) ?_;intro w0 A
 have hX:=And.intro and_true (and_true)
 have hK:=And.intro (ko) trivial;(repeat refine ja0 ?_);refine rgx [0,1,6] ?_
 (repeat refine ja0 ?_);refine rgx [0,1,5,6] ?_
 (repeat refine ja0 ?_);refine rgx [5,6,9] ?_
 (repeat refine ja0 ?_);refine jb6 ?_
 (repeat refine ja0 ?_)
 refine js9 (fun _ _ _ _=>Weak.nil_ownB 0 9 1 rfl) ?_
 refine kb2 (items:=(s.filter (jd1 k)).map itC) [0] [5] (fun pre=>[some (.one (.own 1 pre.length 9 1)),some (.row (((s.filter (jd1 k)).take pre.length).map (fun c=>strD c.y)) 9 1)]) (fun _ _=>False)
  (sofG s k (by omega)) (by kernel_rfl) rfl (fun _ _ _ _=>rfl) rfl rfl rfl rfl rfl (fun v hv=>?_) (fun M L pre v hv=>?_) ?_ (fun _ _ h=>h.elim)
 ·obtain ⟨z,_,rfl⟩:=List.mem_map.1 hv
  rfl
 ·obtain ⟨hj,rfl,hpre⟩:=ku6 clz hv
  clear hv hpre
  have htk:((s.filter (jd1 k)).take (pre.length+1)).map (fun c=>strD c.y)=((s.filter (jd1 k)).take pre.length).map (fun c=>strD c.y)++[strD ((s.filter (jd1 k)).getD pre.length clz).y]:=by rw [jz8 hj,List.map_append];rfl
  have hlen:(((s.filter (jd1 k)).take pre.length).map (fun c=>strD c.y)).length=pre.length:=by rw [List.length_map,List.length_take];omega
  have hpl:(pre++[itC ((s.filter (jd1 k)).getD pre.length clz)]).length=pre.length+1:=by rw [List.length_append];rfl
  rw [hpl,htk]
  have hp9:pre.length≤2199023255552:=by omega
  clear hpl htk
  generalize (s.filter (jd1 k)).getD pre.length clz=c at *
  generalize ((s.filter (jd1 k)).take pre.length).map (fun c=>strD c.y)=R at *
  generalize pre.length=p at *
  refine jp3 [5,10,11] ?_
  have hX:=And.intro and_true (and_true)
  (repeat refine ja0 ?_);refine rgx [5,6] ?_
  intro M2
  have hX:=And.intro hlen (and_true)
  (repeat refine ja0 ?_);refine jb6 ?_
  (repeat refine ja0 ?_);refine rgx [] ?_
  exact .inl ⟨rfl,_,WeakX.refl _,rfl⟩
 ·rw [List.length_map,List.take_length,qa5]
  have hkl:(s.filter (jd1 k)).length=(jf7 s k).length:=by unfold jf7;rw [List.length_map]
  rw [hkl]
  show DX _ _ _ _ _ (mk [(5,.ptr 0 0)] [some (.one (.own 1 (jf7 s k).length 9 1)),some (.row ((jf7 s k).map strD) 9 1)])
  have hX:=And.intro and_true (and_true)
  (repeat refine ja0 ?_);refine rgx [4] ?_
  (repeat refine ja0 ?_);refine ja3 ?_;refine retx ?_;(try dsimp only [outV,ja2])
  exact jq6 (es:=((jf7 s k).map strD).take (jf7 s k).length) (p:=(jf7 s k).length≤((jf7 s k).map strD).length) rfl rfl (by simp) (List.take_of_length_le (by simp)) (fun _=>rfl)
set_option maxHeartbeats 8000000 in
theorem qb5 (s:List Cl) (k:Nat) (hn:s.length≤2199023255552):PC (jb7 Tryd.prog) 34 [ccD s,kinD k] (.sl (jf7 s k) [] strD):=by
 have hfl:∀j,((flC s k j).map Cl.y).length≤s.length:=fun j=>by
  rw [List.length_map]
  exact Nat.le_trans (List.length_filter_le _ _) (by rw [List.length_take];omega)
 have hX:=and_true;refine jb4 Tryd.func34 rfl Tryd.ntmps34 Tryd.results34 rfl (by simp only [jb5,Nat.reduceAdd,u32D,u8D,iD,bD,strD,ja9,jb1,ja5,ja4,ja6,ja8,ja7,jb3,jb2];exact rfl) ?_;intro w0 A
 have hX:=And.intro jd7 (jb8)
 (repeat refine ja0 ?_);refine rgx [0,1] ?_
 (repeat refine ja0 ?_);refine rgx [0,1,5] ?_
 (repeat refine ja0 ?_);refine rgx [1,5,8,9,10] ?_
 (repeat refine ja0 ?_);refine jb6 ?_
 (repeat refine ja0 ?_)
 refine js9 (fun _ _ _ _=>Weak.nil_own 5 9 1 rfl) ?_
 refine jp3 [1,5,8,9,10] ?_
 refine je9 (fun m _ st=>∃j,j+m=s.length∧st=mk [(1,.v (.int .u8 (k:Int))),(5,.own 0 ((flC s k j).map Cl.y).length 9 1),(8,.sl s clz clD),(9,iD (s.length:Int)),(10,iD (j:Int))] [some (.row (((flC s k j).map Cl.y).map strD) 9 1)]) s.length ⟨_,WeakX.refl _,0,by omega,rfl⟩ ?_
 rintro m _ _ ⟨j,hj,rfl⟩
 have hfj:=hfl j
 have hfj2:(flC s k j).length≤s.length:=by rw [List.length_map] at hfj;exact hfj
 have hX:=And.intro and_true (and_true)
 (repeat refine ja0 ?_);refine rgx [1,5,8,9,10,11] ?_
 (repeat refine ja0 ?_);refine ifx ?_ ?_
 ·intro hc;(try simp only [hcs,ne_eq] at hc)
  have hjn:j<s.length:=by omega
  have hup:=ku3 (k:=k) hjn
  (repeat refine ja0 ?_);refine jb0 ?_
  (repeat refine ja0 ?_);refine jb6 ?_
  (repeat refine ja0 ?_);refine rgx [1,5,7,8,9,10] ?_
  generalize s.getD j clz=c at *
  by_cases hk:c.k=k
  ·have d1:decide ((c.k:Int)=(k:Int))=true:=decide_eq_true (by omega)
   rw [show jd1 k c=true from decide_eq_true hk,if_pos rfl] at hup
   have hX:=And.intro jd2 (And.intro jb8 (d1))
   (repeat refine ja0 ?_);refine rgx [1,5,7,8,9,10,17] ?_
   (repeat refine ja0 ?_);refine iftx ?_
   (repeat refine ja0 ?_);refine rgx [1,5,8,9,10] ?_
   (repeat refine ja0 ?_);refine rgx [1,5,8,9,10] ?_
   refine ⟨_,m-1,WeakX.take 1 rfl rfl rfl,by omega,j+1,by omega,?_⟩
   rw [hup,List.map_append,List.map_append,List.length_append]
   rfl
  ·have d1:decide ((c.k:Int)=(k:Int))=false:=decide_eq_false (by omega)
   rw [show jd1 k c=false from decide_eq_false hk,if_neg (by decide)] at hup
   have hX:=And.intro jd2 (And.intro jb8 (d1))
   (repeat refine ja0 ?_);refine rgx [1,5,7,8,9,10,17] ?_
   (repeat refine ja0 ?_);refine iffx ?_
   (repeat refine ja0 ?_);refine jb0 ?_
   (repeat refine ja0 ?_);refine rgx [1,5,8,9,10] ?_
   exact ⟨_,m-1,WeakX.take 1 rfl rfl rfl,by omega,j+1,by omega,by rw [hup];rfl⟩
 ·intro hc;(try simp only [hcs,ne_eq] at hc)
  obtain rfl:j=s.length:=by omega
  rw [show (flC s k s.length).map Cl.y=jf7 s k by rw [kn0];rfl]
  have hX:=And.intro and_true (and_true)
  (repeat refine ja0 ?_);refine jd3 ?_
  (repeat refine ja0 ?_);refine rgx [4] ?_
  (repeat refine ja0 ?_);refine ja3 ?_;refine retx ?_;(try dsimp only [outV,ja2])
  exact jq6 (es:=((jf7 s k).map strD).take (jf7 s k).length) (p:=(jf7 s k).length≤((jf7 s k).map strD).length) rfl rfl (by simp) (List.take_of_length_le (by simp)) (fun _=>rfl)
def jx5:List UInt8:=[108,101,97,118,101]
def memC (s:List Cl) (u:List UInt8):List UInt8:=match lkC s 2 u with|some e=>e.b|none=>jx5
theorem kv2 (s:List Cl) (u:List UInt8):lkC s 2 u=((s.filter (jd1 2)).find? fun c=>decide (c.y=u)).map Cl.e:=by
 unfold lkC
 rw [List.find?_filter]
 congr 1
 congr 1
 funext c
 rw [jl3]
 unfold jd1
 simp
set_option maxHeartbeats 16000000 in
theorem js4 (s:List Cl) (u:List UInt8) (hn:s.length≤140737488351232):PC (jb7 Tryd.prog) 35 [ccD s,strD u] (strD (memC s u)):=by
 have ko:PC (jb7 Tryd.prog) 63 [ccD s,.v (.int .u8 2)] _:=qd4 s 2
 have hlk:=kv2 s u
 unfold memC
 rw [hlk]
 have hX:=and_true;refine jb4 Tryd.func35 rfl Tryd.ntmps35 Tryd.results35 rfl (by simp only [jb5,Nat.reduceAdd,u32D,u8D,iD,bD,strD,ja9,jb1,ja5,ja4,ja6,ja8,ja7,jb3,jb2];exact rfl) ?_;intro w0 A
 have hX:=And.intro and_true (and_true)
 have hK:=And.intro (ko) trivial;(repeat refine ja0 ?_);refine rgx [0,3,4,5,6] ?_
 (repeat refine ja0 ?_);refine rgx [3,4,5,6,8] ?_
 (repeat refine ja0 ?_);refine jb6 ?_
 (repeat refine ja0 ?_)
 refine kb2 (items:=(s.filter (jd1 2)).map itC) [0,1] [3,4] (fun pre=>if ((s.filter (jd1 2)).take pre.length).find? (fun c=>decide (c.y=u))=none then [some (.one (strD u)),some (.one (strD []))] else [some (.one (.ptr 7 0))])
  (fun e h'=>e = .ret∧∃c tl,(s.filter (jd1 2)).find? (fun c=>decide (c.y=u))=some c∧h'=some (.one (strD u))::some (.one (strD c.e.b))::tl)
  (sofG s 2 hn) (by kernel_rfl) rfl (fun _ _ _ _=>rfl) rfl rfl rfl rfl rfl (fun v hv=>?_) (fun M L pre v hv=>?_) ?_ ?_
 ·obtain ⟨z,_,rfl⟩:=List.mem_map.1 hv
  rfl
 ·obtain ⟨hj,rfl,hpre⟩:=ku6 clz hv
  clear hv hpre
  by_cases hg:((s.filter (jd1 2)).take pre.length).find? (fun c=>decide (c.y=u))=none
  ·rw [if_pos hg]
   have hpl:(pre++[itC ((s.filter (jd1 2)).getD pre.length clz)]).length=pre.length+1:=by rw [List.length_append];rfl
   have hup:((s.filter (jd1 2)).take (pre.length+1)).find? (fun c=>decide (c.y=u))=if ((s.filter (jd1 2)).getD pre.length clz).y=u then some ((s.filter (jd1 2)).getD pre.length clz) else none:=by
    rw [jz8 hj,List.find?_append,hg,Option.none_or]
    generalize (s.filter (jd1 2)).getD pre.length clz=c
    by_cases h:c.y=u
    ·simp only [List.find?_cons,List.find?_nil,decide_eq_true h,if_pos h]
    ·simp only [List.find?_cons,List.find?_nil,decide_eq_false h,if_neg h]
   have hsome:((s.filter (jd1 2)).getD pre.length clz).y=u→(s.filter (jd1 2)).find? (fun c=>decide (c.y=u))=some ((s.filter (jd1 2)).getD pre.length clz):=fun h=>by
    rw [if_pos h] at hup
    rw [← List.take_append_drop (pre.length+1) (s.filter (jd1 2)),List.find?_append,hup,Option.some_or]
    rw [List.take_append_drop]
   rw [hpl,hup]
   clear hpl hup
   generalize (s.filter (jd1 2)).getD pre.length clz=c at *
   refine jp3 [3,4,9,10] ?_
   have hX:=And.intro and_true (and_true)
   (repeat refine ja0 ?_);refine rgx [3,4,5,10] ?_
   (repeat refine ja0 ?_);refine rgx [3,4,5,6] ?_
   intro M2
   have hX:=And.intro jc5 (and_true)
   (repeat refine ja0 ?_);refine jb6 ?_
   (repeat refine ja0 ?_);refine rgx [4,6,13] ?_
   (repeat refine ja0 ?_);refine ifx ?_ ?_
   ·intro hc
    have he:c.y=u:=@of_decide_eq_true _ _ hc
    (repeat refine ja0 ?_);refine rgx [4] ?_
    refine ja3 ?_
    exact .inr ⟨.inl rfl,rfl,c,_,hsome he,rfl⟩
   ·intro hc
    have he:¬c.y=u:=@of_decide_eq_false _ _ hc
    rw [if_neg he]
    (repeat refine ja0 ?_);refine jb0 ?_
    exact .inl ⟨rfl,_,(WeakX.pick []).trans (WeakX.takeP 2 rfl rfl rfl rfl),by rw [if_pos rfl];rfl⟩
  ·rw [if_neg hg]
   exact ky9
 ·rw [List.length_map,List.take_length]
  by_cases hg:(s.filter (jd1 2)).find? (fun c=>decide (c.y=u))=none
  ·rw [if_pos hg,hg]
   have hX:=And.intro and_true (and_true)
   (repeat refine ja0 ?_);refine rgx [4] ?_
   (repeat refine ja0 ?_);refine ja3 ?_;refine retx ?_;(try dsimp only [outV,ja2])
   exact ja1 rfl
  ·rw [if_neg hg]
   exact qf2
 ·rintro e h' ⟨rfl,c,tl,hc,rfl⟩
  rw [hc]
  refine retx ?_;(try dsimp only [outV,ja2])
  exact ja1 rfl
set_option maxHeartbeats 8000000 in
theorem kr2 (s:List Cl) (u:List UInt8) (hn:s.length≤140737488351232):PC (jb7 Tryd.prog) 36 [ccD s,strD u] (strD (memC s u)):=by
 have hmem:memC s u=match (s.find? fun c=>eqC c 2 u).map Cl.e with|some e=>e.b|none=>jx5:=rfl
 have hX:=and_true;refine jb4 Tryd.func36 rfl Tryd.ntmps36 Tryd.results36 rfl (by simp only [jb5,Nat.reduceAdd,u32D,u8D,iD,bD,strD,ja9,jb1,ja5,ja4,ja6,ja8,ja7,jb3,jb2];exact rfl) ?_;intro w0 A
 have hX:=And.intro jd7 (and_true)
 (repeat refine ja0 ?_);refine rgx [0,1] ?_
 (repeat refine ja0 ?_);refine rgx [1,7,8,9] ?_
 (repeat refine ja0 ?_);refine jb6 ?_
 (repeat refine ja0 ?_)
 refine je9 (fun m _ st=>∃i,i+m=s.length∧s.find? (fun c=>eqC c 2 u)=(s.drop i).find? (fun c=>eqC c 2 u)∧st=mk [(1,strD u),(7,.sl s clz clD),(8,iD (s.length:Int)),(9,iD (i:Int))] []) s.length ⟨_,WeakX.refl _,0,by omega,rfl,rfl⟩ ?_
 rintro m _ _ ⟨i,hi,hI,rfl⟩
 have hX:=And.intro and_true (and_true)
 (repeat refine ja0 ?_);refine rgx [1,7,8,9,10] ?_
 (repeat refine ja0 ?_);refine ifx ?_ ?_
 ·intro hc2;(try simp only [hcs,ne_eq] at hc2)
  have hin:i<s.length:=by omega
  rw [jr4 hin] at hI
  have hand:=@jl3 (s.getD i clz) 2 u
  (repeat refine ja0 ?_);refine jb0 ?_
  (repeat refine ja0 ?_);refine jb6 ?_
  (repeat refine ja0 ?_);refine rgx [1,6,7,8,9] ?_
  generalize s.getD i clz=c at *
  by_cases hk:c.k=2
  ·have d1:decide ((c.k:Int)=2)=true:=decide_eq_true (by omega)
   rw [decide_eq_true hk,Bool.true_and] at hand
   have hX:=And.intro jd2 (d1)
   (repeat refine ja0 ?_);refine rggx [1,6,7,8,9,21] ?_
   (repeat refine ja0 ?_);refine ifx ?_ ?_
   ·intro hc3
    have he:eqC c 2 u=true:=by rw [hand];exact decide_eq_true (@of_decide_eq_true _ _ hc3)
    rw [if_pos he] at hI
    rw [show memC s u=c.e.b by rw [hmem,hI];rfl]
    have hX:=And.intro jd2 (jc5)
    (repeat refine ja0 ?_);refine rgx [4] ?_
    (repeat refine ja0 ?_);refine ja3 ?_;refine retx ?_;(try dsimp only [outV,ja2])
    exact ja1 rfl
   ·intro hc3
    have he:eqC c 2 u=false:=by rw [hand];exact decide_eq_false (@of_decide_eq_false _ _ hc3)
    rw [he,if_neg (by decide)] at hI
    (repeat refine ja0 ?_);refine jb0 ?_
    (repeat refine ja0 ?_);refine rgx [1,7,8,9] ?_
    exact ⟨_,m-1,WeakX.take 0 rfl rfl rfl,by omega,i+1,by omega,hI,rfl⟩
  ·have d1:decide ((c.k:Int)=2)=false:=decide_eq_false (by omega)
   rw [decide_eq_false hk,Bool.false_and] at hand
   rw [hand,if_neg (by decide)] at hI
   have hX:=And.intro jd2 (d1)
   (repeat refine ja0 ?_);refine rggx [1,6,7,8,9,21] ?_
   (repeat refine ja0 ?_);refine iffx ?_
   (repeat refine ja0 ?_);refine jb0 ?_
   (repeat refine ja0 ?_);refine rgx [1,7,8,9] ?_
   exact ⟨_,m-1,WeakX.take 0 rfl rfl rfl,by omega,i+1,by omega,hI,rfl⟩
 ·intro hc2;(try simp only [hcs,ne_eq] at hc2)
  obtain rfl:i=s.length:=by omega
  rw [List.drop_length] at hI
  rw [show memC s u=jx5 by rw [hmem,hI];rfl]
  have hX:=And.intro and_true (and_true)
  (repeat refine ja0 ?_);refine jd3 ?_
  (repeat refine ja0 ?_);refine rgx [4] ?_
  (repeat refine ja0 ?_);refine ja3 ?_;refine retx ?_;(try dsimp only [outV,ja2])
  exact ja1 rfl
end Go.Proofs.YtpnnjfclmieihaaDoor
