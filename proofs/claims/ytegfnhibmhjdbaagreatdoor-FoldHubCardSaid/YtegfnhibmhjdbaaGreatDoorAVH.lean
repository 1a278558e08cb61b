/- States: found, asked for. States: the cells of a kind, one by one; keys, memberships. -/
import Derived.Test.YtegfnhibmhjdbaaGreatDoorAPD
import Derived.Test.YtegfnhibmhjdbaaGreatDoorAVD
import Derived.Test.YtegfnhibmhjdbaaGreatDoorAVF
import Derived.Test.YtegfnhibmhjdbaaGreatDoorAPJ
set_option linter.unusedSimpArgs false
set_option linter.unusedVariables false
set_option maxRecDepth 10000
namespace Go.Proofs.YtegfnhibmhjdbaaGreatDoor
open Go.RowKit
def fiC (s:List Cl) (k:Nat) (y:List UInt8):D:=.tup (.cons (.v (.int .i64 (posC s (keyC k y):Int))) (.cons (.v (.bool (hasC s k y))) .nil))
theorem kg5:evtD evz = .cons (.v (.string (B []))) (.cons (.v (.string (B []))) (.cons (.v (.int .u8 0)) (.cons (.v (.string (B []))) (.cons (.v (.string (B []))) (.cons (.v (.int .i64 0)) .nil))))):=rfl
theorem qe5 (s:List Cl) (k:Nat) (y:List UInt8) (hc:chkC s=0):PC (ja6 Tryz.prog) 68 [ccD s,kinD k,strD y] (fiC s k y):=by
 obtain ⟨h1,h2⟩:=jg6 hc
 have ks:=qk8 s (keyC k y) (posC s (keyC k y)) h1 (jq0 _ _) (jo5 h2 _)
 have e:serC s (keyC k y) (posC s (keyC k y))=fiC s k y:=by
  unfold serC fiC hasC
  rw [vd3,show decide ((posC s (keyC k y):Int)<(s.length:Int))=decide (posC s (keyC k y)<s.length) by rw [decide_eq_decide];omega]
  rfl
 rw [e] at ks
 unfold fiC at *
 generalize hasC s k y=b at *
 generalize posC s (keyC k y)=p at *
 have hX:=and_true;refine pcx Tryz.func68 rfl Tryz.ntmps68 Tryz.results68 rfl ?_;intro w0 A
 have hX:=And.intro jd3 (jb2)
 have hK:=And.intro (ks) trivial;(repeat refine ja0 ?_);refine rgx [0,1,2] ?_
 (repeat refine ja0 ?_);refine rgx [6,7] ?_
 (repeat refine ja0 ?_);refine ja3 ?_;refine retx ?_;(try dsimp only [outV,ja4])
 exact ja2 rfl
def eeD (r:Ev×Int):D:=.tup (.cons (evtD r.1) (.cons (iD r.2) .nil))
def getC (s:List Cl) (k:Nat) (y:List UInt8):Ev×Int:=if chkC s=0 then (match lkC s k y with|some e=>(e,0)|none=>(evz,3)) else (evz,2)
theorem kc2 {s:List Cl}{k:Nat}{y:List UInt8} (h:chkC s≠0):getC s k y=(evz,2):=if_neg h
set_option maxHeartbeats 8000000 in
theorem jz9 (s:List Cl) (k:Nat) (y:List UInt8) (hs:ccB s):PC (ja6 Tryz.prog) 21 [ccD s,kinD k,strD y] (eeD (getC s k y)):=by
 have kc:=jw9 s hs
 by_cases hc:chkC s=0
 ·have kf:=qe5 s k y hc
  obtain ⟨h1,h2⟩:=jg6 hc
  have hl:=vj9 h2 k y
  rw [hc] at kc
  unfold fiC at kf
  cases hi:hasC s k y
  ·rw [hi] at kf hl
   rw [show getC s k y=(evz,3) by unfold getC;rw [if_pos hc,hl];rfl]
   generalize posC s (keyC k y)=p at *
   have hX:=and_true;refine pcx Tryz.func21 rfl Tryz.ntmps21 Tryz.results21 rfl ?_;intro w0 A
   have hX:=And.intro jd3 (jb2)
   have hK:=And.intro (kc) (And.intro (kf) trivial);(repeat refine ja0 ?_);refine rgx [0,1,2,6] ?_
   (repeat refine ja0 ?_);refine rgx [0,1,2,6,8] ?_
   (repeat refine ja0 ?_);refine rgx [0,1,2,6,8,14] ?_
   (repeat refine ja0 ?_);refine iffx ?_
   (repeat refine ja0 ?_);refine ja1 ?_
   (repeat refine ja0 ?_);refine rgx [0,6,9,10] ?_
   (repeat refine ja0 ?_);refine rgx [0,6,9,25] ?_
   (repeat refine ja0 ?_);refine iftx ?_
   (repeat refine ja0 ?_);refine rgx [6,7] ?_
   (repeat refine ja0 ?_);refine ja3 ?_;refine retx ?_;(try dsimp only [outV,ja4])
   exact ja2 rfl
  ·rw [hi] at kf hl
   rw [show getC s k y=((s.getD (posC s (keyC k y)) clz).e,0) by unfold getC;rw [if_pos hc,hl];rfl]
   have hp:posC s (keyC k y)<s.length:=by
    unfold hasC at hi
    rw [Bool.and_eq_true] at hi
    exact of_decide_eq_true hi.1
   generalize posC s (keyC k y)=p at *
   have hX:=and_true;refine pcx Tryz.func21 rfl Tryz.ntmps21 Tryz.results21 rfl ?_;intro w0 A
   have hX:=And.intro jd3 (And.intro jb2 (je4))
   have hK:=And.intro (kc) (And.intro (kf) trivial);(repeat refine ja0 ?_);refine rgx [0,1,2,6] ?_
   (repeat refine ja0 ?_);refine rgx [0,1,2,6,8] ?_
   (repeat refine ja0 ?_);refine rgx [0,1,2,6,8,14] ?_
   (repeat refine ja0 ?_);refine iffx ?_
   (repeat refine ja0 ?_);refine ja1 ?_
   (repeat refine ja0 ?_);refine rgx [0,6,9,10] ?_
   (repeat refine ja0 ?_);refine rgx [0,6,9,25] ?_
   (repeat refine ja0 ?_);refine iffx ?_
   (repeat refine ja0 ?_);refine ja1 ?_
   (repeat refine ja0 ?_);refine rgx [6,7] ?_
   (repeat refine ja0 ?_);refine ja3 ?_;refine retx ?_;(try dsimp only [outV,ja4])
   exact ja2 rfl
 ·rw [kc2 hc]
  rw [ji7 hc] at kc
  have hX:=and_true;refine pcx Tryz.func21 rfl Tryz.ntmps21 Tryz.results21 rfl ?_;intro w0 A
  have hX:=And.intro jd3 (jb2)
  have hK:=And.intro (kc) trivial;(repeat refine ja0 ?_);refine rgx [0,1,2,6] ?_
  (repeat refine ja0 ?_);refine rgx [0,1,2,6,8] ?_
  (repeat refine ja0 ?_);refine rgx [0,1,2,6,8,14] ?_
  (repeat refine ja0 ?_);refine iftx ?_
  (repeat refine ja0 ?_);refine rgx [6,7] ?_
  (repeat refine ja0 ?_);refine ja3 ?_;refine retx ?_;(try dsimp only [outV,ja4])
  exact ja2 rfl
theorem kb9 {c:Cl}{k:Nat}{y:List UInt8}:eqC c k y=(decide (c.k=k)&&decide (c.y=y)):=by
 unfold eqC
 rw [Bool.eq_iff_iff,Bool.and_eq_true,decide_eq_true_eq,decide_eq_true_eq,decide_eq_true_eq]
set_option maxHeartbeats 8000000 in
theorem ve2 (s:List Cl) (k:Nat) (y:List UInt8) (hs:ccB s):PC (ja6 Tryz.prog) 90 [ccD s,kinD k,strD y] (eeD (getC s k y)):=by
 have kc:=jl9 s hs
 by_cases hc:chkC s=0
 ·rw [hc] at kc
  obtain ⟨h1,h2⟩:=jg6 hc
  have hX:=and_true;refine pcx Tryz.func90 rfl Tryz.ntmps90 Tryz.results90 rfl ?_;intro w0 A
  have hX:=And.intro jd3 (And.intro jb2 (kg5))
  have hK:=And.intro (kc) trivial;(repeat refine ja0 ?_);refine rgx [0,1,2,6] ?_
  (repeat refine ja0 ?_);refine rgx [0,1,2,6,12] ?_
  (repeat refine ja0 ?_);refine iffx ?_
  (repeat refine ja0 ?_);refine ja1 ?_
  (repeat refine ja0 ?_);refine rgx [1,2,6,14,15,16] ?_
  (repeat refine ja0 ?_);refine ja5 ?_
  (repeat refine ja0 ?_)
  refine jd4 (fun m _ st=>∃i,i+m=s.length∧s.find? (fun c=>eqC c k y)=(s.drop i).find? (fun c=>eqC c k y)∧st=mk [(1,.v (.int .u8 (k:Int))),(2,strD y),(6,.ptr 0 0),(14,.sl s clz clD),(15,iD (s.length:Int)),(16,iD (i:Int))] [some (.one (evtD evz))]) s.length ⟨_,WeakX.refl _,0,by omega,rfl,rfl⟩ ?_
  rintro m _ _ ⟨i,hi,hI,rfl⟩
  have hX:=And.intro kg5 (and_true)
  (repeat refine ja0 ?_);refine rgx [1,2,6,14,15,16,17] ?_
  (repeat refine ja0 ?_);refine ifx ?_ ?_
  ·intro hc2;(try simp only [hcs,ne_eq] at hc2)
   have hin:i<s.length:=by omega
   rw [jz1 hin] at hI
   have hand:=@kb9 (s.getD i clz) k y
   (repeat refine ja0 ?_);refine ja1 ?_
   (repeat refine ja0 ?_);refine ja5 ?_
   (repeat refine ja0 ?_);refine rgx [1,2,6,9,14,15,16] ?_
   generalize s.getD i clz=c at *
   by_cases hk:c.k=k
   ·have d1:decide ((c.k:Int)=(k:Int))=true:=decide_eq_true (by omega)
    rw [decide_eq_true hk,Bool.true_and] at hand
    have hX:=And.intro je4 (And.intro jb2 (d1))
    (repeat refine ja0 ?_);refine rggx [1,2,6,9,14,15,16,29] ?_
    (repeat refine ja0 ?_);refine ifx ?_ ?_
    ·intro hc3
     have he:eqC c k y=true:=by rw [hand];exact decide_eq_true (@of_decide_eq_true _ _ hc3)
     rw [if_pos he] at hI
     rw [show getC s k y=(c.e,0) by unfold getC lkC;rw [if_pos hc,hI];rfl]
     have hX:=And.intro je4 (kg5)
     (repeat refine ja0 ?_);refine rgx [6,7] ?_
     (repeat refine ja0 ?_);refine ja3 ?_;refine retx ?_;(try dsimp only [outV,ja4])
     exact ja2 rfl
    ·intro hc3
     have he:eqC c k y=false:=by rw [hand];exact decide_eq_false (@of_decide_eq_false _ _ hc3)
     rw [he,if_neg (by decide)] at hI
     (repeat refine ja0 ?_);refine ja1 ?_
     (repeat refine ja0 ?_);refine rgx [1,2,6,14,15,16] ?_
     exact ⟨_,m-1,WeakX.take 1 rfl rfl rfl,by omega,i+1,by omega,hI,rfl⟩
   ·have d1:decide ((c.k:Int)=(k:Int))=false:=decide_eq_false (by omega)
    rw [decide_eq_false hk,Bool.false_and] at hand
    rw [hand,if_neg (by decide)] at hI
    have hX:=And.intro je4 (And.intro jb2 (d1))
    (repeat refine ja0 ?_);refine rggx [1,2,6,9,14,15,16,29] ?_
    (repeat refine ja0 ?_);refine iffx ?_
    (repeat refine ja0 ?_);refine ja1 ?_
    (repeat refine ja0 ?_);refine rgx [1,2,6,14,15,16] ?_
    exact ⟨_,m-1,WeakX.take 1 rfl rfl rfl,by omega,i+1,by omega,hI,rfl⟩
  ·intro hc2;(try simp only [hcs,ne_eq] at hc2)
   obtain rfl:i=s.length:=by omega
   rw [List.drop_length] at hI
   rw [show getC s k y=(evz,3) by unfold getC lkC;rw [if_pos hc,hI];rfl]
   have hX:=And.intro kg5 (and_true)
   (repeat refine ja0 ?_);refine jc0 ?_
   (repeat refine ja0 ?_);refine rgx [6,7] ?_
   (repeat refine ja0 ?_);refine ja3 ?_;refine retx ?_;(try dsimp only [outV,ja4])
   exact ja2 rfl
 ·rw [kc2 hc]
  rw [ji7 hc] at kc
  have hX:=and_true;refine pcx Tryz.func90 rfl Tryz.ntmps90 Tryz.results90 rfl ?_;intro w0 A
  have hX:=And.intro jd3 (jb2)
  have hK:=And.intro (kc) trivial;(repeat refine ja0 ?_);refine rgx [0,1,2,6] ?_
  (repeat refine ja0 ?_);refine rgx [0,1,2,6,12] ?_
  (repeat refine ja0 ?_);refine iftx ?_
  (repeat refine ja0 ?_);refine rgx [6,7] ?_
  (repeat refine ja0 ?_);refine ja3 ?_;refine retx ?_;(try dsimp only [outV,ja4])
  exact ja2 rfl
def jg4 (k:Nat) (c:Cl):Bool:=decide (c.k=k)
def itC (c:Cl):List D:=[strD c.y,evtD c.e]
def flC (s:List Cl) (k j:Nat):List Cl:=(s.take j).filter (jg4 k)
theorem kk1 {s:List Cl}{j:Nat} (hj:j<s.length):s.take (j+1)=s.take j++[s.getD j clz]:=by
 rw [List.take_succ_eq_append_getElem hj,List.getD_eq_getElem?_getD,List.getElem?_eq_getElem hj,Option.getD_some]
theorem vi9 {s:List Cl}{k j:Nat} (hj:j<s.length):flC s k (j+1)=if jg4 k (s.getD j clz)=true then flC s k j++[s.getD j clz] else flC s k j:=by
 unfold flC
 rw [kk1 hj,List.filter_append]
 by_cases h:jg4 k (s.getD j clz)=true
 ·rw [if_pos h,List.filter_cons_of_pos h];rfl
 ·rw [if_neg h,List.filter_cons_of_neg h];simp
theorem vb7 (s:List Cl) (k j:Nat):flC s k j <+: s.filter (jg4 k):=(List.take_prefix j s).filter _
theorem vb6 (s:List Cl) (k:Nat):flC s k s.length=s.filter (jg4 k):=by unfold flC;rw [List.take_length]
theorem vq7 (s:List Cl) (k:Nat):PC (ja6 Tryz.prog) 69 [ccD s,kinD k] (.fn 113 (jh6 [.ip (ccD s),.ip (kinD k)])):=by
 have hX:=and_true;refine pcx Tryz.func69 rfl Tryz.ntmps69 Tryz.results69 rfl ?_;intro w0 A
 have hX:=And.intro jd3 (jb2)
 (repeat refine ja0 ?_);refine rgx [2,3] ?_
 (repeat refine ja0 ?_);refine rgx [4] ?_
 (repeat refine ja0 ?_);refine ja3 ?_;refine retx ?_;(try dsimp only [outV,ja4])
 exact kb1 rfl rfl rfl
set_option maxHeartbeats 16000000 in
theorem sofG (s:List Cl) (k':Nat) (hn:s.length≤140737488351232):SeqX (ja6 Tryz.prog) 113 (jh6 [.ip (ccD s),.ip (kinD k')]) ((s.filter (jg4 k')).map itC):=by
 have hX:=and_true;refine kz7 Tryz.func113 rfl Tryz.ntmps113 Tryz.results113 rfl rfl rfl ?_;intro k;refine ka9 (by simp only [jf2,Nat.reduceAdd,u32D,u8D,iD,bD,strD,jc7,jd0,jc3,jc2,jc4,jc6,jc5,jd2,jd1];exact rfl) ?_
 have hX:=And.intro jd3 (jb2)
 (repeat refine ja0 ?_);refine rgx [0,2,6,7,8] ?_
 (repeat refine ja0 ?_);refine ja5 ?_
 (repeat refine ja0 ?_)
 refine jd4 (fun m g st=>∃j,j+m=s.length∧g=((flC s k' j).map itC,true)∧st=mk [(0,.v (.func (.yield k.l) #[] #[])),(2,.ip (kinD k')),(6,.sl s clz clD),(7,iD (s.length:Int)),(8,iD (j:Int))] []) s.length ⟨_,WeakX.refl _,0,by omega,rfl,rfl⟩ ?_
 rintro m _ _ ⟨j,hj,rfl,rfl⟩
 have hX:=And.intro jd3 (jb2)
 (repeat refine ja0 ?_);refine rgx [0,2,6,7,8,9] ?_
 (repeat refine ja0 ?_);refine ifx ?_ ?_
 ·intro hc;(try simp only [hcs,ne_eq] at hc)
  have hjn:j<s.length:=by omega
  have hup:=vi9 (k:=k') hjn
  have hpre:=vb7 s k' (j+1)
  rw [hup] at hpre
  generalize hcx:s.getD j clz=c at *
  (repeat refine ja0 ?_);refine ja1 ?_
  (repeat refine ja0 ?_);refine ja5 ?_
  have hX:=And.intro jb2 (hcx)
  (repeat refine ja0 ?_);refine rgx [0,2,5,6,7,8] ?_
  by_cases hk:c.k=k'
  ·have d1:decide ((c.k:Int)=(k':Int))=true:=decide_eq_true (by omega)
   rw [show jg4 k' c=true from decide_eq_true hk,if_pos rfl] at hup hpre
   have hpre2:=hpre.map itC
   rw [List.map_append,show ([c]:List Cl).map itC=[itC c] from rfl] at hpre2
   have hX:=And.intro je4 (And.intro jb2 (d1))
   (repeat refine ja0 ?_);refine jt3 ?_;refine jh4 10 ?_;intro w0 A S0 f0;simp only [List.take,List.drop];(repeat (first|(refine gtx rfl rfl ?_)|(refine gx ?_)|((with_reducible show DR _ _ _ (_::_) _);first|(refine cx _ (envG _ _ _ _ _ _) rfl rfl rfl rfl rfl ?_ (hc:=by first|fail))  | (refine sx ?_))));refine ja7 ?_
   refine dlgx rfl rfl ?_
   refine jv1 rfl rfl (fun _ _ _ _=>rfl) (fun _ _ _ _=>by simp only [jb3,implies_true,setD,bslF,je5,jd8,List.zip_cons_cons,List.zip_nil_right,List.zip_nil_left,jb0,rng0,rng1,rng2,rng3,rng4,rng5,rng6,rng7,rng8,List.getD_cons_zero,List.getD_cons_succ,Nat.reduceLeDiff,decide_true,decide_false,List.all_cons,List.all_nil,dqF,nilF,jf7,jb4,Op.operands,Call.operands,evD,cD,gip,upd,look,List.map,List.map_cons,List.map_nil,binF,binI,shI,binS,unF,wD,kLo,kHi,kMod,jf5,jf3,jf4,je7,je6,je9,je8,lenF,lenD,je2,je1,minF,jd9,cutL,bndF,sub,nc,aggT,aggB,scB,tnth,elems,L_B,L_mk,List.getElem?_cons_zero,List.getElem?_cons_succ,reduceIte,reduceCtorEq,Option.isSome,List.toList_toArray,Nat.reduceAdd,Nat.reduceSub,Nat.reduceMul,Nat.reduceEqDiff,Nat.reduceLT,Nat.reduceBEq,mkF,mkG,Bool.and_true,Bool.true_and,Bool.and_false,Bool.false_and,beq_self_eq_true,mkC,Int.reduceToNat,Int.toNat_natCast,Int.reduceAdd,Int.reduceSub,Int.reduceMul,Nat.zero_add,Nat.add_zero,Nat.mul_one,and_true,true_and,Option.getD_some,Option.getD_none,ne_eq,not_true_eq_false,not_false_eq_true,decide_not,Bool.not_true,Bool.not_false,Int.reduceLT,Int.reduceLE,Int.reduceEq,Int.reduceNe,Int.reduceGT,Int.reduceGE,gt_iff_lt,ge_iff_le,Nat.reduceLT,Nat.reduceLeDiff,u32D,u8D,iD,bD,strD,jc7,jd0,jc3,jc2,jc4,jc6,jc5,jd2,jd1,Array.toList_append,List.cons_append,List.nil_append,hX];exact rfl) rfl ?_ ?_ ?_
   ·exact hpre2
   ·skip
    have hX:=And.intro jb2 (Bool.not_true)
    refine jh4 2 ?_;intro w0 A S0 f0;simp only [List.take,List.drop];(repeat (first|(refine gtx rfl rfl ?_)|(refine gx ?_)|((with_reducible show DR _ _ _ (_::_) _);first|(refine cx _ (envG _ _ _ _ _ _) rfl rfl rfl rfl rfl ?_ (hc:=by first|fail))  | (refine sx ?_))));refine ja7 ?_;refine jm1 [0,2,6,7,8,24] (kl1 ?_)
    (repeat refine ja0 ?_);refine iffx ?_
    (repeat refine ja0 ?_);refine ja1 ?_
    have hX:=And.intro jb2 (and_true)
    (repeat refine ja0 ?_);refine rgx [0,2,6,7,8] ?_
    exact ⟨_,m-1,WeakX.takeP 0 rfl rfl rfl rfl,by omega,j+1,by omega,by rw [hup,List.map_append];rfl,rfl⟩
   ·skip
    have hX:=And.intro jb2 (Bool.not_false)
    refine jh4 2 ?_;intro w0 A S0 f0;simp only [List.take,List.drop];(repeat (first|(refine gtx rfl rfl ?_)|(refine gx ?_)|((with_reducible show DR _ _ _ (_::_) _);first|(refine cx _ (envG _ _ _ _ _ _) rfl rfl rfl rfl rfl ?_ (hc:=by first|fail))  | (refine sx ?_))));refine ja7 ?_;refine jm1 [0,2,6,7,8,24] (kl1 ?_)
    (repeat refine ja0 ?_);refine iftx ?_
    refine ja3 ?_
    exact ⟨.inr rfl,fun h=>by cases h⟩
  ·have d1:decide ((c.k:Int)=(k':Int))=false:=decide_eq_false (by omega)
   rw [show jg4 k' c=false from decide_eq_false hk,if_neg (by decide)] at hup
   have hX:=And.intro je4 (And.intro jb2 (d1))
   (repeat refine ja0 ?_);refine rggx [0,2,6,7,8,24] ?_
   (repeat refine ja0 ?_);refine iffx ?_
   (repeat refine ja0 ?_);refine ja1 ?_
   have hX:=And.intro jb2 (and_true)
   (repeat refine ja0 ?_);refine rgx [0,2,6,7,8] ?_
   exact ⟨_,m-1,WeakX.takeP 0 rfl rfl rfl rfl,by omega,j+1,by omega,by rw [hup],rfl⟩
 ·intro hc;(try simp only [hcs,ne_eq] at hc)
  obtain rfl:j=s.length:=by omega
  (repeat refine ja0 ?_);refine jc0 ?_
  exact ⟨.inl rfl,fun _=>by rw [vb6]⟩


def ku3:List UInt8:=[108,101,97,118,101]
def memC (s:List Cl) (u:List UInt8):List UInt8:=match lkC s 2 u with|some e=>e.b|none=>ku3
theorem qm2 (s:List Cl) (u:List UInt8):lkC s 2 u=((s.filter (jg4 2)).find? fun c=>decide (c.y=u)).map Cl.e:=by
 unfold lkC
 rw [List.find?_filter]
 congr 1
 congr 1
 funext c
 rw [kb9]
 unfold jg4
 simp
set_option maxHeartbeats 16000000 in
theorem ka1 (s:List Cl) (u:List UInt8) (hn:s.length≤140737488351232):PC (ja6 Tryz.prog) 22 [ccD s,strD u] (strD (memC s u)):=by
 have ko:PC (ja6 Tryz.prog) 69 [ccD s,.v (.int .u8 2)] _:=vq7 s 2
 have hlk:=qm2 s u
 unfold memC
 rw [hlk]
 have hX:=and_true;refine pcx Tryz.func22 rfl Tryz.ntmps22 Tryz.results22 rfl ?_;intro w0 A
 have hX:=And.intro and_true (and_true)
 have hK:=And.intro (ko) trivial;(repeat refine ja0 ?_);refine rgx [0,3,4,5,6] ?_
 (repeat refine ja0 ?_);refine rgx [3,4,5,6,8] ?_
 (repeat refine ja0 ?_);refine ja5 ?_
 (repeat refine ja0 ?_)
 refine jx9 (items:=(s.filter (jg4 2)).map itC) [0,1] [3,4] (fun pre=>if ((s.filter (jg4 2)).take pre.length).find? (fun c=>decide (c.y=u))=none then [some (.one (strD u)),some (.one (strD []))] else [some (.one (.ptr 7 0))])
  (fun e h'=>e = .ret∧∃c tl,(s.filter (jg4 2)).find? (fun c=>decide (c.y=u))=some c∧h'=some (.one (strD u))::some (.one (strD c.e.b))::tl)
  (sofG s 2 hn) (by kernel_rfl) rfl (fun _ _ _ _=>rfl) rfl rfl rfl rfl rfl (fun v hv=>?_) (fun M L pre v hv=>?_) ?_ ?_
 ·obtain ⟨z,_,rfl⟩:=List.mem_map.1 hv
  rfl
 ·obtain ⟨hj,rfl,hpre⟩:=ku0 clz hv
  clear hv hpre
  by_cases hg:((s.filter (jg4 2)).take pre.length).find? (fun c=>decide (c.y=u))=none
  ·rw [if_pos hg]
   have hpl:(pre++[itC ((s.filter (jg4 2)).getD pre.length clz)]).length=pre.length+1:=by rw [List.length_append];rfl
   have hup:((s.filter (jg4 2)).take (pre.length+1)).find? (fun c=>decide (c.y=u))=if ((s.filter (jg4 2)).getD pre.length clz).y=u then some ((s.filter (jg4 2)).getD pre.length clz) else none:=by
    rw [kk1 hj,List.find?_append,hg,Option.none_or]
    generalize (s.filter (jg4 2)).getD pre.length clz=c
    by_cases h:c.y=u
    ·simp only [List.find?_cons,List.find?_nil,decide_eq_true h,if_pos h]
    ·simp only [List.find?_cons,List.find?_nil,decide_eq_false h,if_neg h]
   have hsome:((s.filter (jg4 2)).getD pre.length clz).y=u→(s.filter (jg4 2)).find? (fun c=>decide (c.y=u))=some ((s.filter (jg4 2)).getD pre.length clz):=fun h=>by
    rw [if_pos h] at hup
    rw [← List.take_append_drop (pre.length+1) (s.filter (jg4 2)),List.find?_append,hup,Option.some_or]
    rw [List.take_append_drop]
   rw [hpl,hup]
   clear hpl hup
   generalize (s.filter (jg4 2)).getD pre.length clz=c at *
   refine jk0 [3,4,9,10] ?_
   have hX:=And.intro and_true (and_true)
   (repeat refine ja0 ?_);refine rgx [3,4,5,10] ?_
   (repeat refine ja0 ?_);refine rgx [3,4,5,6] ?_
   intro M2
   have hX:=And.intro ja9 (and_true)
   (repeat refine ja0 ?_);refine ja5 ?_
   (repeat refine ja0 ?_);refine rgx [4,6,13] ?_
   (repeat refine ja0 ?_);refine ifx ?_ ?_
   ·intro hc
    have he:c.y=u:=@of_decide_eq_true _ _ hc
    (repeat refine ja0 ?_);refine rgx [4] ?_
    refine ja3 ?_
    exact .inr ⟨.inl rfl,rfl,c,_,hsome he,rfl⟩
   ·intro hc
    have he:¬c.y=u:=@of_decide_eq_false _ _ hc
    rw [if_neg he]
    (repeat refine ja0 ?_);refine ja1 ?_
    exact .inl ⟨rfl,_,(WeakX.pick []).trans (WeakX.takeP 2 rfl rfl rfl rfl),by rw [if_pos rfl];rfl⟩
  ·rw [if_neg hg]
   exact kd5
 ·rw [List.length_map,List.take_length]
  by_cases hg:(s.filter (jg4 2)).find? (fun c=>decide (c.y=u))=none
  ·rw [if_pos hg,hg]
   have hX:=And.intro and_true (and_true)
   (repeat refine ja0 ?_);refine rgx [4] ?_
   (repeat refine ja0 ?_);refine ja3 ?_;refine retx ?_;(try dsimp only [outV,ja4])
   exact ja2 rfl
  ·rw [if_neg hg]
   exact kj0
 ·rintro e h' ⟨rfl,c,tl,hc,rfl⟩
  rw [hc]
  refine retx ?_;(try dsimp only [outV,ja4])
  exact ja2 rfl
set_option maxHeartbeats 8000000 in
theorem jw6 (s:List Cl) (u:List UInt8) (hn:s.length≤140737488351232):PC (ja6 Tryz.prog) 64 [ccD s,strD u] (strD (memC s u)):=by
 have hmem:memC s u=match (s.find? fun c=>eqC c 2 u).map Cl.e with|some e=>e.b|none=>ku3:=rfl
 have hX:=and_true;refine pcx Tryz.func64 rfl Tryz.ntmps64 Tryz.results64 rfl ?_;intro w0 A
 have hX:=And.intro jd3 (and_true)
 (repeat refine ja0 ?_);refine rgx [0,1] ?_
 (repeat refine ja0 ?_);refine rgx [1,7,8,9] ?_
 (repeat refine ja0 ?_);refine ja5 ?_
 (repeat refine ja0 ?_)
 refine jd4 (fun m _ st=>∃i,i+m=s.length∧s.find? (fun c=>eqC c 2 u)=(s.drop i).find? (fun c=>eqC c 2 u)∧st=mk [(1,strD u),(7,.sl s clz clD),(8,iD (s.length:Int)),(9,iD (i:Int))] []) s.length ⟨_,WeakX.refl _,0,by omega,rfl,rfl⟩ ?_
 rintro m _ _ ⟨i,hi,hI,rfl⟩
 have hX:=And.intro and_true (and_true)
 (repeat refine ja0 ?_);refine rgx [1,7,8,9,10] ?_
 (repeat refine ja0 ?_);refine ifx ?_ ?_
 ·intro hc2;(try simp only [hcs,ne_eq] at hc2)
  have hin:i<s.length:=by omega
  rw [jz1 hin] at hI
  have hand:=@kb9 (s.getD i clz) 2 u
  (repeat refine ja0 ?_);refine ja1 ?_
  (repeat refine ja0 ?_);refine ja5 ?_
  (repeat refine ja0 ?_);refine rgx [1,6,7,8,9] ?_
  generalize s.getD i clz=c at *
  by_cases hk:c.k=2
  ·have d1:decide ((c.k:Int)=2)=true:=decide_eq_true (by omega)
   rw [decide_eq_true hk,Bool.true_and] at hand
   have hX:=And.intro je4 (d1)
   (repeat refine ja0 ?_);refine rggx [1,6,7,8,9,21] ?_
   (repeat refine ja0 ?_);refine ifx ?_ ?_
   ·intro hc3
    have he:eqC c 2 u=true:=by rw [hand];exact decide_eq_true (@of_decide_eq_true _ _ hc3)
    rw [if_pos he] at hI
    rw [show memC s u=c.e.b by rw [hmem,hI];rfl]
    have hX:=And.intro je4 (ja9)
    (repeat refine ja0 ?_);refine rgx [4] ?_
    (repeat refine ja0 ?_);refine ja3 ?_;refine retx ?_;(try dsimp only [outV,ja4])
    exact ja2 rfl
   ·intro hc3
    have he:eqC c 2 u=false:=by rw [hand];exact decide_eq_false (@of_decide_eq_false _ _ hc3)
    rw [he,if_neg (by decide)] at hI
    (repeat refine ja0 ?_);refine ja1 ?_
    (repeat refine ja0 ?_);refine rgx [1,7,8,9] ?_
    exact ⟨_,m-1,WeakX.take 0 rfl rfl rfl,by omega,i+1,by omega,hI,rfl⟩
  ·have d1:decide ((c.k:Int)=2)=false:=decide_eq_false (by omega)
   rw [decide_eq_false hk,Bool.false_and] at hand
   rw [hand,if_neg (by decide)] at hI
   have hX:=And.intro je4 (d1)
   (repeat refine ja0 ?_);refine rggx [1,6,7,8,9,21] ?_
   (repeat refine ja0 ?_);refine iffx ?_
   (repeat refine ja0 ?_);refine ja1 ?_
   (repeat refine ja0 ?_);refine rgx [1,7,8,9] ?_
   exact ⟨_,m-1,WeakX.take 0 rfl rfl rfl,by omega,i+1,by omega,hI,rfl⟩
 ·intro hc2;(try simp only [hcs,ne_eq] at hc2)
  obtain rfl:i=s.length:=by omega
  rw [List.drop_length] at hI
  rw [show memC s u=ku3 by rw [hmem,hI];rfl]
  have hX:=And.intro and_true (and_true)
  (repeat refine ja0 ?_);refine jc0 ?_
  (repeat refine ja0 ?_);refine rgx [4] ?_
  (repeat refine ja0 ?_);refine ja3 ?_;refine retx ?_;(try dsimp only [outV,ja4])
  exact ja2 rfl
end Go.Proofs.YtegfnhibmhjdbaaGreatDoor
