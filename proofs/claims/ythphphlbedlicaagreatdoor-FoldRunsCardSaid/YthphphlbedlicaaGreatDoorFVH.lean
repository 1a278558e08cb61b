/- States: found, asked for. States: the cells of a kind, one by one; keys, memberships. States: an event is set, the program's. -/
import Derived.Test.YthphphlbedlicaaGreatDoorFPD
import Derived.Test.YthphphlbedlicaaGreatDoorFVC
import Derived.Test.YthphphlbedlicaaGreatDoorFVF
import Derived.Test.YthphphlbedlicaaGreatDoorFPJ
import Derived.Test.YthphphlbedlicaaGreatDoorFPH
set_option linter.unusedSimpArgs false
set_option linter.unusedVariables false
set_option maxRecDepth 10000
namespace Go.Proofs.YthphphlbedlicaaGreatDoor
open Go.RowKit
def fiC (s:List Cl) (k:Nat) (y:List UInt8):D:=.tup (.cons (.v (.int .i64 (posC s (keyC k y):Int))) (.cons (.v (.bool (hasC s k y))) .nil))
theorem kg5:evtD evz = .cons (.v (.string (B []))) (.cons (.v (.string (B []))) (.cons (.v (.int .u8 0)) (.cons (.v (.string (B []))) (.cons (.v (.string (B []))) (.cons (.v (.int .i64 0)) .nil))))):=rfl
theorem qf7 (s:List Cl) (k:Nat) (y:List UInt8) (hc:chkC s=0):PC (ja0 Tryz.prog) 46 [ccD s,kinD k,strD y] (fiC s k y):=by
 obtain ⟨h1,h2⟩:=jg9 hc
 have ks:=qn2 s (keyC k y) (posC s (keyC k y)) h1 (jp3 _ _) (jo0 h2 _)
 have e:serC s (keyC k y) (posC s (keyC k y))=fiC s k y:=by
  unfold serC fiC hasC
  rw [vg9,show decide ((posC s (keyC k y):Int)<(s.length:Int))=decide (posC s (keyC k y)<s.length) by rw [decide_eq_decide];omega]
  rfl
 rw [e] at ks
 unfold fiC at *
 generalize hasC s k y=b at *
 generalize posC s (keyC k y)=p at *
 have hX:=and_true;refine pcx Tryz.func46 rfl Tryz.ntmps46 Tryz.results46 rfl ?_;intro w0 A
 have hX:=And.intro jd1 (ja7)
 have hK:=And.intro (ks) trivial;refine rgx [0,1,2] ?_
 refine rgx [6,7] ?_
 exact retF
def eeD (r:Ev×Int):D:=.tup (.cons (evtD r.1) (.cons (iD r.2) .nil))
def getC (s:List Cl) (k:Nat) (y:List UInt8):Ev×Int:=if chkC s=0 then (match lkC s k y with|some e=>(e,0)|none=>(evz,3)) else (evz,2)
theorem kc0 {s:List Cl}{k:Nat}{y:List UInt8} (h:chkC s≠0):getC s k y=(evz,2):=if_neg h
set_option maxHeartbeats 8000000 in
theorem ki4 (s:List Cl) (k:Nat) (y:List UInt8) (hs:ccB s):PC (ja0 Tryz.prog) 37 [ccD s,kinD k,strD y] (eeD (getC s k y)):=by
 have kc:=jx0 s hs
 by_cases hc:chkC s=0
 ·have kf:=qf7 s k y hc
  obtain ⟨h1,h2⟩:=jg9 hc
  have hl:=vo3 h2 k y
  rw [hc] at kc
  unfold fiC at kf
  cases hi:hasC s k y
  ·rw [hi] at kf hl
   rw [show getC s k y=(evz,3) by unfold getC;rw [if_pos hc,hl];rfl]
   generalize posC s (keyC k y)=p at *
   have hX:=and_true;refine pcx Tryz.func37 rfl Tryz.ntmps37 Tryz.results37 rfl ?_;intro w0 A
   have hX:=And.intro jd1 (ja7)
   have hK:=And.intro (kc) (And.intro (kf) trivial);refine rgx [0,1,2,6] ?_
   refine rgx [0,1,2,6,8] ?_
   refine rgx [0,1,2,6,8,14] ?_
   refine iffs ?_
   refine rgx [0,6,9,10] ?_
   refine rgx [0,6,9,25] ?_
   refine iftx ?_
   refine rgx [6,7] ?_
   exact retF
  ·rw [hi] at kf hl
   rw [show getC s k y=((s.getD (posC s (keyC k y)) clz).e,0) by unfold getC;rw [if_pos hc,hl];rfl]
   have hp:posC s (keyC k y)<s.length:=by
    unfold hasC at hi
    rw [Bool.and_eq_true] at hi
    exact of_decide_eq_true hi.1
   generalize posC s (keyC k y)=p at *
   have hX:=and_true;refine pcx Tryz.func37 rfl Tryz.ntmps37 Tryz.results37 rfl ?_;intro w0 A
   have hX:=And.intro jd1 (And.intro ja7 (je2))
   have hK:=And.intro (kc) (And.intro (kf) trivial);refine rgx [0,1,2,6] ?_
   refine rgx [0,1,2,6,8] ?_
   refine rgx [0,1,2,6,8,14] ?_
   refine iffs ?_
   refine rgx [0,6,9,10] ?_
   refine rgx [0,6,9,25] ?_
   refine iffs ?_
   refine rgx [6,7] ?_
   exact retF
 ·rw [kc0 hc]
  rw [ji7 hc] at kc
  have hX:=and_true;refine pcx Tryz.func37 rfl Tryz.ntmps37 Tryz.results37 rfl ?_;intro w0 A
  have hX:=And.intro jd1 (ja7)
  have hK:=And.intro (kc) trivial;refine rgx [0,1,2,6] ?_
  refine rgx [0,1,2,6,8] ?_
  refine rgx [0,1,2,6,8,14] ?_
  refine iftx ?_
  refine rgx [6,7] ?_
  exact retF
theorem kb7 {c:Cl}{k:Nat}{y:List UInt8}:eqC c k y=(decide (c.k=k)&&decide (c.y=y)):=by
 unfold eqC
 rw [Bool.eq_iff_iff,Bool.and_eq_true,decide_eq_true_eq,decide_eq_true_eq,decide_eq_true_eq]
set_option maxHeartbeats 8000000 in
theorem vi1 (s:List Cl) (k:Nat) (y:List UInt8) (hs:ccB s):PC (ja0 Tryz.prog) 84 [ccD s,kinD k,strD y] (eeD (getC s k y)):=by
 have kc:=jl7 s hs
 by_cases hc:chkC s=0
 ·rw [hc] at kc
  obtain ⟨h1,h2⟩:=jg9 hc
  have hX:=and_true;refine pcx Tryz.func84 rfl Tryz.ntmps84 Tryz.results84 rfl ?_;intro w0 A
  have hX:=And.intro jd1 (And.intro ja7 (kg5))
  have hK:=And.intro (kc) trivial;refine rgx [0,1,2,6] ?_
  refine rgx [0,1,2,6,12] ?_
  refine iffs ?_
  refine rgx [1,2,6,14,15,16] ?_
  (repeat refine ja2 ?_);refine jb2 ?_
  (repeat refine ja2 ?_)
  refine jc4 (fun m _ st=>∃i,i+m=s.length∧s.find? (fun c=>eqC c k y)=(s.drop i).find? (fun c=>eqC c k y)∧st=mk [(1,.v (.int .u8 (k:Int))),(2,strD y),(6,.ptr 0 0),(14,.sl s clz clD),(15,iD (s.length:Int)),(16,iD (i:Int))] [some (.one (evtD evz))]) s.length ⟨_,WeakX.refl _,0,by omega,rfl,rfl⟩ ?_
  rintro m _ _ ⟨i,hi,hI,rfl⟩
  have hX:=And.intro kg5 (and_true)
  refine rgx [1,2,6,14,15,16,17] ?_
  refine ifx ?_ ?_
  ·intro hc2;(try simp only [hcs,ne_eq] at hc2)
   have hin:i<s.length:=by omega
   rw [jy9 hin] at hI
   have hand:=@kb7 (s.getD i clz) k y
   refine ja6 ?_
   refine rgx [1,2,6,9,14,15,16] ?_
   generalize s.getD i clz=c at *
   by_cases hk:c.k=k
   ·have d1:decide ((c.k:Int)=(k:Int))=true:=decide_eq_true (by omega)
    rw [decide_eq_true hk,Bool.true_and] at hand
    have hX:=And.intro je2 (And.intro ja7 (d1))
    refine rggx [1,2,6,9,14,15,16,29] ?_
    refine ifx ?_ ?_
    ·intro hc3
     have he:eqC c k y=true:=by rw [hand];exact decide_eq_true (@of_decide_eq_true _ _ hc3)
     rw [if_pos he] at hI
     rw [show getC s k y=(c.e,0) by unfold getC lkC;rw [if_pos hc,hI];rfl]
     have hX:=And.intro je2 (kg5)
     refine rgx [6,7] ?_
     exact retF
    ·intro hc3
     have he:eqC c k y=false:=by rw [hand];exact decide_eq_false (@of_decide_eq_false _ _ hc3)
     rw [he,if_neg (by decide)] at hI
     refine ja6 ?_
     refine rgx [1,2,6,14,15,16] ?_
     exact ⟨_,m-1,WeakX.take 1 rfl rfl rfl,by omega,i+1,by omega,hI,rfl⟩
   ·have d1:decide ((c.k:Int)=(k:Int))=false:=decide_eq_false (by omega)
    rw [decide_eq_false hk,Bool.false_and] at hand
    rw [hand,if_neg (by decide)] at hI
    have hX:=And.intro je2 (And.intro ja7 (d1))
    refine rggx [1,2,6,9,14,15,16,29] ?_
    refine iffs ?_
    refine rgx [1,2,6,14,15,16] ?_
    exact ⟨_,m-1,WeakX.take 1 rfl rfl rfl,by omega,i+1,by omega,hI,rfl⟩
  ·intro hc2;(try simp only [hcs,ne_eq] at hc2)
   obtain rfl:i=s.length:=by omega
   rw [List.drop_length] at hI
   rw [show getC s k y=(evz,3) by unfold getC lkC;rw [if_pos hc,hI];rfl]
   have hX:=And.intro kg5 (and_true)
   refine jc8 ?_
   refine rgx [6,7] ?_
   exact retF
 ·rw [kc0 hc]
  rw [ji7 hc] at kc
  have hX:=and_true;refine pcx Tryz.func84 rfl Tryz.ntmps84 Tryz.results84 rfl ?_;intro w0 A
  have hX:=And.intro jd1 (ja7)
  have hK:=And.intro (kc) trivial;refine rgx [0,1,2,6] ?_
  refine rgx [0,1,2,6,12] ?_
  refine iftx ?_
  refine rgx [6,7] ?_
  exact retF
def jg1 (k:Nat) (c:Cl):Bool:=decide (c.k=k)
def itC (c:Cl):List D:=[strD c.y,evtD c.e]
def flC (s:List Cl) (k j:Nat):List Cl:=(s.take j).filter (jg1 k)
theorem kk1 {s:List Cl}{j:Nat} (hj:j<s.length):s.take (j+1)=s.take j++[s.getD j clz]:=by
 rw [List.take_succ_eq_append_getElem hj,List.getD_eq_getElem?_getD,List.getElem?_eq_getElem hj,Option.getD_some]
theorem vn1 {s:List Cl}{k j:Nat} (hj:j<s.length):flC s k (j+1)=if jg1 k (s.getD j clz)=true then flC s k j++[s.getD j clz] else flC s k j:=by
 unfold flC
 rw [kk1 hj,List.filter_append]
 by_cases h:jg1 k (s.getD j clz)=true
 ·rw [if_pos h,List.filter_cons_of_pos h];rfl
 ·rw [if_neg h,List.filter_cons_of_neg h];simp
theorem vf2 (s:List Cl) (k j:Nat):flC s k j <+: s.filter (jg1 k):=(List.take_prefix j s).filter _
theorem vf1 (s:List Cl) (k:Nat):flC s k s.length=s.filter (jg1 k):=by unfold flC;rw [List.take_length]
theorem vv6 (s:List Cl) (k:Nat):PC (ja0 Tryz.prog) 118 [ccD s,kinD k] (.fn 144 (jh3 [.ip (ccD s),.ip (kinD k)])):=by
 have hX:=and_true;refine pcx Tryz.func118 rfl Tryz.ntmps118 Tryz.results118 rfl ?_;intro w0 A
 have hX:=And.intro jd1 (ja7)
 refine rgx [2,3] ?_
 refine rgx [4] ?_
 refine rX ?_;refine retx ?_;(try dsimp only [outV,ja5])
 exact ka8 rfl rfl rfl
set_option maxHeartbeats 16000000 in
theorem sofG (s:List Cl) (k':Nat) (hn:s.length≤140737488351232):SeqX (ja0 Tryz.prog) 144 (jh3 [.ip (ccD s),.ip (kinD k')]) ((s.filter (jg1 k')).map itC):=by
 have hX:=and_true;refine qa0 Tryz.func144 rfl Tryz.ntmps144 Tryz.results144 rfl rfl rfl ?_;intro k;refine ka6 (by simp only [jf2,Nat.reduceAdd,u32D,u8D,iD,bD,strD,jc3,jc5,jb9,jb8,jc0,jc2,jc1,jc7,jc6];exact rfl) ?_
 have hX:=And.intro jd1 (ja7)
 refine rgx [0,2,6,7,8] ?_
 (repeat refine ja2 ?_);refine jb2 ?_
 (repeat refine ja2 ?_)
 refine jc4 (fun m g st=>∃j,j+m=s.length∧g=((flC s k' j).map itC,true)∧st=mk [(0,.v (.func (.yield k.l) #[] #[])),(2,.ip (kinD k')),(6,.sl s clz clD),(7,iD (s.length:Int)),(8,iD (j:Int))] []) s.length ⟨_,WeakX.refl _,0,by omega,rfl,rfl⟩ ?_
 rintro m _ _ ⟨j,hj,rfl,rfl⟩
 have hX:=And.intro jd1 (ja7)
 refine rgx [0,2,6,7,8,9] ?_
 refine ifx ?_ ?_
 ·intro hc;(try simp only [hcs,ne_eq] at hc)
  have hjn:j<s.length:=by omega
  have hup:=vn1 (k:=k') hjn
  have hpre:=vf2 s k' (j+1)
  rw [hup] at hpre
  generalize hcx:s.getD j clz=c at *
  refine ja6 ?_
  (repeat refine ja2 ?_);refine jb2 ?_
  have hX:=And.intro ja7 (hcx)
  refine rgx [0,2,5,6,7,8] ?_
  by_cases hk:c.k=k'
  ·have d1:decide ((c.k:Int)=(k':Int))=true:=decide_eq_true (by omega)
   rw [show jg1 k' c=true from decide_eq_true hk,if_pos rfl] at hup hpre
   have hpre2:=hpre.map itC
   rw [List.map_append,show ([c]:List Cl).map itC=[itC c] from rfl] at hpre2
   have hX:=And.intro je2 (And.intro ja7 (d1))
   (repeat refine ja2 ?_);refine js9 ?_;refine jh2 10 ?_;intro w0 A S0 f0;simp only [List.take,List.drop];(repeat (first|(refine gtx rfl rfl ?_)|(refine gx ?_)|((with_reducible show DR _ _ _ (_::_) _);first|(refine cx _ (envG _ _ _ _ _ _) rfl rfl rfl rfl rfl ?_ (hc:=by first|fail))  | (refine sx ?_))));refine ja1 ?_
   refine dlgx rfl rfl ?_
   refine jv1 rfl rfl (fun _ _ _ _=>rfl) (fun _ _ _ _=>by simp only [ja9,implies_true,setD,bslF,je1,jd5,List.zip_cons_cons,List.zip_nil_right,List.zip_nil_left,ja4,rng0,rng1,rng2,rng3,rng4,rng5,rng6,rng7,rng8,List.getD_cons_zero,List.getD_cons_succ,Nat.reduceLeDiff,decide_true,decide_false,List.all_cons,List.all_nil,dqF,nilF,jf4,ja8,Op.operands,Call.operands,evD,cD,gip,upd,look,List.map,List.map_cons,List.map_nil,binF,binI,shI,binS,unF,wD,kLo,kHi,kMod,jf3,jf0,jf1,je4,je3,je6,je5,lenF,lenD,je0,jd8,minF,jd7,cutL,bndF,sub,nc,aggT,aggB,scB,tnth,elems,L_B,L_mk,List.getElem?_cons_zero,List.getElem?_cons_succ,reduceIte,reduceCtorEq,Option.isSome,List.toList_toArray,Nat.reduceAdd,Nat.reduceSub,Nat.reduceMul,Nat.reduceEqDiff,Nat.reduceLT,Nat.reduceBEq,mkF,mkG,Bool.and_true,Bool.true_and,Bool.and_false,Bool.false_and,beq_self_eq_true,mkC,Int.reduceToNat,Int.toNat_natCast,Int.reduceAdd,Int.reduceSub,Int.reduceMul,Nat.zero_add,Nat.add_zero,Nat.mul_one,and_true,true_and,Option.getD_some,Option.getD_none,ne_eq,not_true_eq_false,not_false_eq_true,decide_not,Bool.not_true,Bool.not_false,Int.reduceLT,Int.reduceLE,Int.reduceEq,Int.reduceNe,Int.reduceGT,Int.reduceGE,gt_iff_lt,ge_iff_le,Nat.reduceLT,Nat.reduceLeDiff,u32D,u8D,iD,bD,strD,jc3,jc5,jb9,jb8,jc0,jc2,jc1,jc7,jc6,Array.toList_append,List.cons_append,List.nil_append,hX];exact rfl) rfl ?_ ?_ ?_
   ·exact hpre2
   ·skip
    have hX:=And.intro ja7 (Bool.not_true)
    refine jh2 2 ?_;intro w0 A S0 f0;simp only [List.take,List.drop];(repeat (first|(refine gtx rfl rfl ?_)|(refine gx ?_)|((with_reducible show DR _ _ _ (_::_) _);first|(refine cx _ (envG _ _ _ _ _ _) rfl rfl rfl rfl rfl ?_ (hc:=by first|fail))  | (refine sx ?_))));refine ja1 ?_;refine jl9 [0,2,6,7,8,24] (kl1 ?_)
    refine iffs ?_
    have hX:=And.intro ja7 (and_true)
    refine rgx [0,2,6,7,8] ?_
    exact ⟨_,m-1,WeakX.takeP 0 rfl rfl rfl rfl,by omega,j+1,by omega,by rw [hup,List.map_append];rfl,rfl⟩
   ·skip
    have hX:=And.intro ja7 (Bool.not_false)
    refine jh2 2 ?_;intro w0 A S0 f0;simp only [List.take,List.drop];(repeat (first|(refine gtx rfl rfl ?_)|(refine gx ?_)|((with_reducible show DR _ _ _ (_::_) _);first|(refine cx _ (envG _ _ _ _ _ _) rfl rfl rfl rfl rfl ?_ (hc:=by first|fail))  | (refine sx ?_))));refine ja1 ?_;refine jl9 [0,2,6,7,8,24] (kl1 ?_)
    refine iftx ?_
    refine jh4 ?_
    exact ⟨.inr rfl,fun h=>by cases h⟩
  ·have d1:decide ((c.k:Int)=(k':Int))=false:=decide_eq_false (by omega)
   rw [show jg1 k' c=false from decide_eq_false hk,if_neg (by decide)] at hup
   have hX:=And.intro je2 (And.intro ja7 (d1))
   refine rggx [0,2,6,7,8,24] ?_
   refine iffs ?_
   have hX:=And.intro ja7 (and_true)
   refine rgx [0,2,6,7,8] ?_
   exact ⟨_,m-1,WeakX.takeP 0 rfl rfl rfl rfl,by omega,j+1,by omega,by rw [hup],rfl⟩
 ·intro hc;(try simp only [hcs,ne_eq] at hc)
  obtain rfl:j=s.length:=by omega
  refine jc8 ?_
  exact ⟨.inl rfl,fun _=>by rw [vf1]⟩


def ku4:List UInt8:=[108,101,97,118,101]
def memC (s:List Cl) (u:List UInt8):List UInt8:=match lkC s 2 u with|some e=>e.b|none=>ku4
theorem qp0 (s:List Cl) (u:List UInt8):lkC s 2 u=((s.filter (jg1 2)).find? fun c=>decide (c.y=u)).map Cl.e:=by
 unfold lkC
 rw [List.find?_filter]
 congr 1
 congr 1
 funext c
 rw [kb7]
 unfold jg1
 simp
set_option maxHeartbeats 16000000 in
theorem qr3 (s:List Cl) (u:List UInt8) (hn:s.length≤140737488351232):PC (ja0 Tryz.prog) 75 [ccD s,strD u] (strD (memC s u)):=by
 have ko:PC (ja0 Tryz.prog) 118 [ccD s,.v (.int .u8 2)] _:=vv6 s 2
 have hlk:=qp0 s u
 unfold memC
 rw [hlk]
 have hX:=and_true;refine pcx Tryz.func75 rfl Tryz.ntmps75 Tryz.results75 rfl ?_;intro w0 A
 have hX:=And.intro and_true (and_true)
 have hK:=And.intro (ko) trivial;refine rgx [0,3,4,5,6] ?_
 refine rgx [3,4,5,6,8] ?_
 (repeat refine ja2 ?_);refine jb2 ?_
 (repeat refine ja2 ?_)
 refine jy1 (items:=(s.filter (jg1 2)).map itC) [0,1] [3,4] (fun pre=>if ((s.filter (jg1 2)).take pre.length).find? (fun c=>decide (c.y=u))=none then [some (.one (strD u)),some (.one (strD []))] else [some (.one (.ptr 7 0))])
  (fun e h'=>e = .ret∧∃c tl,(s.filter (jg1 2)).find? (fun c=>decide (c.y=u))=some c∧h'=some (.one (strD u))::some (.one (strD c.e.b))::tl)
  (sofG s 2 hn) (by kernel_rfl) rfl (fun _ _ _ _=>rfl) rfl rfl rfl rfl rfl (fun v hv=>?_) (fun M L pre v hv=>?_) ?_ ?_
 ·obtain ⟨z,_,rfl⟩:=List.mem_map.1 hv
  rfl
 ·obtain ⟨hj,rfl,hpre⟩:=ku0 clz hv
  clear hv hpre
  by_cases hg:((s.filter (jg1 2)).take pre.length).find? (fun c=>decide (c.y=u))=none
  ·rw [if_pos hg]
   have hpl:(pre++[itC ((s.filter (jg1 2)).getD pre.length clz)]).length=pre.length+1:=by rw [List.length_append];rfl
   have hup:((s.filter (jg1 2)).take (pre.length+1)).find? (fun c=>decide (c.y=u))=if ((s.filter (jg1 2)).getD pre.length clz).y=u then some ((s.filter (jg1 2)).getD pre.length clz) else none:=by
    rw [kk1 hj,List.find?_append,hg,Option.none_or]
    generalize (s.filter (jg1 2)).getD pre.length clz=c
    by_cases h:c.y=u
    ·simp only [List.find?_cons,List.find?_nil,decide_eq_true h,if_pos h]
    ·simp only [List.find?_cons,List.find?_nil,decide_eq_false h,if_neg h]
   have hsome:((s.filter (jg1 2)).getD pre.length clz).y=u→(s.filter (jg1 2)).find? (fun c=>decide (c.y=u))=some ((s.filter (jg1 2)).getD pre.length clz):=fun h=>by
    rw [if_pos h] at hup
    rw [← List.take_append_drop (pre.length+1) (s.filter (jg1 2)),List.find?_append,hup,Option.some_or]
    rw [List.take_append_drop]
   rw [hpl,hup]
   clear hpl hup
   generalize (s.filter (jg1 2)).getD pre.length clz=c at *
   refine ji5 [3,4,9,10] ?_
   have hX:=And.intro and_true (and_true)
   refine rgx [3,4,5,10] ?_
   refine rgx [3,4,5,6] ?_
   intro M2
   have hX:=And.intro ja3 (and_true)
   refine rgx [4,6,13] ?_
   refine ifx ?_ ?_
   ·intro hc
    have he:c.y=u:=@of_decide_eq_true _ _ hc
    refine rgx [4] ?_
    refine jh4 ?_
    exact .inr ⟨.inl rfl,rfl,c,_,hsome he,rfl⟩
   ·intro hc
    have he:¬c.y=u:=@of_decide_eq_false _ _ hc
    rw [if_neg he]
    refine ja6 ?_
    exact .inl ⟨rfl,_,(WeakX.pick []).trans (WeakX.takeP 2 rfl rfl rfl rfl),by rw [if_pos rfl];rfl⟩
  ·rw [if_neg hg]
   exact kd7
 ·rw [List.length_map,List.take_length]
  by_cases hg:(s.filter (jg1 2)).find? (fun c=>decide (c.y=u))=none
  ·rw [if_pos hg,hg]
   have hX:=And.intro and_true (and_true)
   refine rgx [4] ?_
   exact retF
  ·rw [if_neg hg]
   exact kj2
 ·rintro e h' ⟨rfl,c,tl,hc,rfl⟩
  rw [hc]
  refine retx ?_;(try dsimp only [outV,ja5])
  exact jd0 rfl
set_option maxHeartbeats 8000000 in
theorem jw7 (s:List Cl) (u:List UInt8) (hn:s.length≤140737488351232):PC (ja0 Tryz.prog) 55 [ccD s,strD u] (strD (memC s u)):=by
 have hmem:memC s u=match (s.find? fun c=>eqC c 2 u).map Cl.e with|some e=>e.b|none=>ku4:=rfl
 have hX:=and_true;refine pcx Tryz.func55 rfl Tryz.ntmps55 Tryz.results55 rfl ?_;intro w0 A
 have hX:=And.intro jd1 (and_true)
 refine rgx [0,1] ?_
 refine rgx [1,7,8,9] ?_
 (repeat refine ja2 ?_);refine jb2 ?_
 (repeat refine ja2 ?_)
 refine jc4 (fun m _ st=>∃i,i+m=s.length∧s.find? (fun c=>eqC c 2 u)=(s.drop i).find? (fun c=>eqC c 2 u)∧st=mk [(1,strD u),(7,.sl s clz clD),(8,iD (s.length:Int)),(9,iD (i:Int))] []) s.length ⟨_,WeakX.refl _,0,by omega,rfl,rfl⟩ ?_
 rintro m _ _ ⟨i,hi,hI,rfl⟩
 have hX:=And.intro and_true (and_true)
 refine rgx [1,7,8,9,10] ?_
 refine ifx ?_ ?_
 ·intro hc2;(try simp only [hcs,ne_eq] at hc2)
  have hin:i<s.length:=by omega
  rw [jy9 hin] at hI
  have hand:=@kb7 (s.getD i clz) 2 u
  refine ja6 ?_
  refine rgx [1,6,7,8,9] ?_
  generalize s.getD i clz=c at *
  by_cases hk:c.k=2
  ·have d1:decide ((c.k:Int)=2)=true:=decide_eq_true (by omega)
   rw [decide_eq_true hk,Bool.true_and] at hand
   have hX:=And.intro je2 (d1)
   refine rggx [1,6,7,8,9,21] ?_
   refine ifx ?_ ?_
   ·intro hc3
    have he:eqC c 2 u=true:=by rw [hand];exact decide_eq_true (@of_decide_eq_true _ _ hc3)
    rw [if_pos he] at hI
    rw [show memC s u=c.e.b by rw [hmem,hI];rfl]
    have hX:=And.intro je2 (ja3)
    refine rgx [4] ?_
    exact retF
   ·intro hc3
    have he:eqC c 2 u=false:=by rw [hand];exact decide_eq_false (@of_decide_eq_false _ _ hc3)
    rw [he,if_neg (by decide)] at hI
    refine ja6 ?_
    refine rgx [1,7,8,9] ?_
    exact ⟨_,m-1,WeakX.take 0 rfl rfl rfl,by omega,i+1,by omega,hI,rfl⟩
  ·have d1:decide ((c.k:Int)=2)=false:=decide_eq_false (by omega)
   rw [decide_eq_false hk,Bool.false_and] at hand
   rw [hand,if_neg (by decide)] at hI
   have hX:=And.intro je2 (d1)
   refine rggx [1,6,7,8,9,21] ?_
   refine iffs ?_
   refine rgx [1,7,8,9] ?_
   exact ⟨_,m-1,WeakX.take 0 rfl rfl rfl,by omega,i+1,by omega,hI,rfl⟩
 ·intro hc2;(try simp only [hcs,ne_eq] at hc2)
  obtain rfl:i=s.length:=by omega
  rw [List.drop_length] at hI
  rw [show memC s u=ku4 by rw [hmem,hI];rfl]
  have hX:=And.intro and_true (and_true)
  refine jc8 ?_
  refine rgx [4] ?_
  exact retF
def ofE (e:Ev):Cl:=⟨e.k,e.y,e⟩
def inE (e:Ev):Bool:=stB e.k&&evOk e
theorem qz9 (e:Ev):rB (ofE e)=inE e:=by
 unfold rB inE ofE
 rw [decide_eq_true (p:=e.k=e.k) rfl,decide_eq_true (p:=e.y=e.y) rfl,Bool.and_true,Bool.and_true]
def scD (r:List Cl×Int):D:=.tup (.cons (ccD r.1) (.cons (iD r.2) .nil))
def plE (s:List Cl) (e:Ev):Nat:=posC s (keyC e.k e.y)
def setC (s:List Cl) (e:Ev):List Cl×Int:=if chkC s=0 then (if inE e=true then (if hasC s e.k e.y=true then (s.set (plE s e) (ofE e),0) else if s.length=256 then (s,8) else (s.take (plE s e)++ofE e::s.drop (plE s e),0)) else (s,2)) else ([],2)
theorem qs4 {h:List (Option Bk)}{l n T sz:Nat}{b:List Cl} (hl:h[l]?=some (some (.row (b.map clD) T sz))) (hn:n=b.length):Fin h (.own l n T sz) (ccD b):=by
 subst hn
 exact jj2 (es:=(b.map clD).take b.length) (p:=b.length≤(b.map clD).length) rfl (by simp only [elems,hl]) (by simp) (List.take_of_length_le (by simp)) (fun _=>rfl)
theorem va2 {h:List (Option Bk)}{l n T sz:Nat}{b:List Cl} (hl:h[l]?=some (some (.row (b.map clD) T sz))) (hn:n=b.length):Le h (.own l n T sz) (ccD b):=by
 subst hn
 exact qu4 (es:=(b.map clD).take b.length) (p:=b.length≤(b.map clD).length) (by simp only [elems,hl]) (by simp) (List.take_of_length_le (by simp)) (fun _=>rfl)
theorem jm3 {h:List (Option Bk)}{l n T sz:Nat}{b:List Cl}{e:Int} (hl:h[l]?=some (some (.row (b.map clD) T sz))) (hn:n=b.length):Fin h (.tup (.cons (.own l n T sz) (.cons (iD e) .nil))) (scD (b,e)):=jh9 (.cons rfl rfl (qs4 hl hn) (.cons rfl rfl (jd0 rfl) .nil))
theorem ks1 (b:List Cl) {k:Nat} (h:k<b.length):(b.map clD).getD k .dead=clD (b.getD k clz):=by
 simp [List.getD_eq_getElem?_getD,h]
set_option maxHeartbeats 16000000 in
theorem vr1 (s:List Cl) (e:Ev) (hs:ccB s) (he:evB e):PC (ja0 Tryz.prog) 21 [ccD s,evtD e] (scD (setC s e)):=by
 have kc:=jx0 s hs
 by_cases hc:chkC s=0
 ·obtain ⟨hl,hgd⟩:=jg9 hc
  rw [hc] at kc
  have kr:=kn8 (ofE e) ⟨he.2.2.2,he⟩
  rw [qz9] at kr
  have kr:PC (ja0 Tryz.prog) 45 [.cons (.v (.int .u8 (e.k:Int))) (.cons (.v (.string (B e.y))) (.cons (evtD e) .nil))] (bD (inE e)):=kr
  have kf:=qf7 s e.k e.y hc
  have ki:=qn1 s (ofE e) (plE s e) (jp3 _ _) hl
  have hple:plE s e≤s.length:=jp3 _ _
  have hset:setC s e=if inE e=true then (if hasC s e.k e.y=true then (s.set (plE s e) (ofE e),0) else if s.length=256 then (s,8) else (s.take (plE s e)++ofE e::s.drop (plE s e),0)) else (s,2):=if_pos hc
  have hhas:hasC s e.k e.y=true→plE s e<s.length:=fun h=>by
   unfold hasC at h
   rw [Bool.and_eq_true] at h
   exact of_decide_eq_true h.1
  rw [hset]
  unfold fiC at kf
  change PC _ _ _ (.tup (.cons (.v (.int .i64 (plE s e:Int))) (.cons (.v (.bool (hasC s e.k e.y))) .nil))) at kf
  generalize plE s e=p at *
  have hX:=and_true;refine pcx Tryz.func21 rfl Tryz.ntmps21 Tryz.results21 rfl ?_;intro w0 A
  have hX:=And.intro jd1 (and_true)
  have hK:=And.intro (kc) trivial;refine rgx [0,3] ?_
  refine rgx [0,3,6] ?_
  refine rgx [0,3,6,14] ?_
  refine iffs ?_
  refine regX [3,7] ?_;intro w0 A S0 f0
  iterate 1 ((with_reducible show DR _ _ _ (_::_) _);first|(refine cx _ (envG _ _ _ _ _ _) rfl rfl rfl rfl rfl ?_ (hc:=by first|exact kc))  | (refine sx ?_))
  refine ex rfl (jg3 (envG _ _ _ _ _ _) rfl rfl rfl (hc:=qu7 s hl) (hx:=by exact dsb)) ?_
  (repeat ((with_reducible show DR _ _ _ (_::_) _);first|(refine cx _ (envG _ _ _ _ _ _) rfl rfl rfl rfl rfl ?_ (hc:=by first|exact kc))  | (refine sx ?_)));refine ja1 ?_;refine kl1 ?_
  have hX:=And.intro ja3 (and_true)
  refine rgx [3,7,8] ?_
  cases hr:inE e with
  | false =>
   rw [hr] at kr
   rw [if_neg (by decide)]
   have hX:=And.intro ja3 (and_true)
   have hK:=And.intro (kr) trivial;refine rgx [3,7,8,26] ?_
   refine iftx ?_
   refine rgx [4,5] ?_
   refine rX ?_;refine retx ?_;(try dsimp only [outV,ja5])
   exact jm3 rfl rfl
  | true =>
   rw [hr] at kr
   rw [if_pos rfl]
   have hX:=And.intro ja3 (and_true)
   have hK:=And.intro (kr) trivial;refine rgx [3,7,8,26] ?_
   refine iffs ?_
   refine regX [7,8,9,10] ?_;intro w0 A S0 f0
   iterate 5 ((with_reducible show DR _ _ _ (_::_) _);first|(refine cx _ (envG _ _ _ _ _ _) rfl rfl rfl rfl rfl ?_ (hc:=by first|exact kr))  | (refine sx ?_))
   refine clx _ (envG _ _ _ _ _ _) (ys:=[ccD s,kinD e.k,strD e.y]) (.cons (va2 rfl rfl) (.cons (LeP.refl rfl).le (.cons (LeP.refl rfl).le .nil))) kf rfl rfl rfl rfl rfl rfl ?_
   (repeat ((with_reducible show DR _ _ _ (_::_) _);first|(refine cx _ (envG _ _ _ _ _ _) rfl rfl rfl rfl rfl ?_ (hc:=by first|exact kr))  | (refine sx ?_)));refine ja1 ?_;refine kl1 ?_
   cases hh:hasC s e.k e.y with
   | false =>
    rw [if_neg (by decide)]
    by_cases hf:s.length=256
    ·have d0:decide ((s.length:Int)=256)=true:=decide_eq_true (by omega)
     rw [if_pos hf]
     have hX:=And.intro hh (d0)
     refine rgx [7,8,9,42] ?_
     refine iffx ?_
     refine rgx [7,8,9,48] ?_
     refine iftx ?_
     refine rgx [4,5] ?_
     refine rX ?_;refine retx ?_;(try dsimp only [outV,ja5])
     exact jm3 rfl rfl
    ·have d0:decide ((s.length:Int)=256)=false:=decide_eq_false (by omega)
     rw [if_neg hf]
     have hil:(s.take p++ofE e::s.drop p).length=s.length+1:=by rw [List.length_append,List.length_cons,List.length_take,List.length_drop];omega
     generalize s.take p++ofE e::s.drop p=ib at *
     have hX:=And.intro hh (And.intro d0 (ja3))
     refine rgx [7,8,9,42] ?_
     refine iffx ?_
     refine rgx [7,8,9,48] ?_
     refine iffx ?_
     refine regX [7] ?_;intro w0 A S0 f0
     iterate 4 ((with_reducible show DR _ _ _ (_::_) _);first|(refine cx _ (envG _ _ _ _ _ _) rfl rfl rfl rfl rfl ?_ (hc:=by first|fail))  | (refine sx ?_))
     refine ex rfl (jj5 (envG _ _ _ _ _ _) ki (by intro h;rw [List.map_eq_nil_iff] at h;rw [h] at hil;simp at hil) rfl rfl rfl rfl) ?_
     (repeat ((with_reducible show DR _ _ _ (_::_) _);first|(refine cx _ (envG _ _ _ _ _ _) rfl rfl rfl rfl rfl ?_ (hc:=by first|fail))  | (refine sx ?_)));refine ja1 ?_;refine kl1 ?_
     refine rgx [4,5] ?_
     refine rX ?_;refine retx ?_;(try dsimp only [outV,ja5])
     exact jm3 rfl hil.symm
   | true =>
    have hp:=hhas hh
    rw [if_pos rfl]
    have hrow:=ks1 s hp
    have hset:(s.map clD).set p (clD (ofE e))=(s.set p (ofE e)).map clD:=by rw [List.map_set]
    have hsl:(s.set p (ofE e)).length=s.length:=List.length_set
    have hX:=And.intro hh (And.intro hrow (And.intro je2 (ja3)))
    refine regX [7,8,9,42] ?_;intro w0 A S0 f0;(repeat ((with_reducible show DR _ _ _ (_::_) _);first|(refine cx _ (envG _ _ _ _ _ _) rfl rfl rfl rfl rfl ?_ (hc:=by first|fail))|(refine ex rfl (jg8 p 0 rfl rfl rfl hset (by simp only [List.length_map];exact hp)) ?_)|(refine sx ?_)));refine ja1 ?_;refine kl1 ?_
    refine iftx ?_
    refine regX [7] ?_;intro w0 A S0 f0;(repeat ((with_reducible show DR _ _ _ (_::_) _);first|(refine cx _ (envG _ _ _ _ _ _) rfl rfl rfl rfl rfl ?_ (hc:=by first|fail))|(refine ex rfl (jg8 p 0 rfl rfl rfl hset (by simp only [List.length_map];exact hp)) ?_)|(refine sx ?_)));refine ja1 ?_;refine kl1 ?_
    refine regX [4,5] ?_;intro w0 A S0 f0;(repeat ((with_reducible show DR _ _ _ (_::_) _);first|(refine cx _ (envG _ _ _ _ _ _) rfl rfl rfl rfl rfl ?_ (hc:=by first|fail))|(refine ex rfl (jg8 p 0 rfl rfl rfl hset (by simp only [List.length_map];exact hp)) ?_)|(refine sx ?_)));refine ja1 ?_;refine kl1 ?_
    refine rX ?_;refine retx ?_;(try dsimp only [outV,ja5])
    exact jm3 rfl hsl.symm
 ·rw [show setC s e=([],2) from if_neg hc]
  rw [ji7 hc] at kc
  have hX:=and_true;refine pcx Tryz.func21 rfl Tryz.ntmps21 Tryz.results21 rfl ?_;intro w0 A
  have hX:=And.intro jd1 (and_true)
  have hK:=And.intro (kc) trivial;refine rgx [0,3] ?_
  refine rgx [0,3,6] ?_
  refine rgx [0,3,6,14] ?_
  refine iftx ?_
  refine rgx [4,5] ?_
  refine rX ?_;refine retx ?_;(try dsimp only [outV,ja5])
  exact jh9 (.cons rfl rfl kj6 (.cons rfl rfl (jd0 rfl) .nil))
end Go.Proofs.YthphphlbedlicaaGreatDoor
