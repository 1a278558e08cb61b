/- Scripts: a text's lines, one by one. Scripts: a text read line by line (plain). -/
import Derived.Test.YtlhdeplkmghniaaDoorSPD
import Derived.Test.YtlhdeplkmghniaaDoorSYC
import Derived.Test.YtlhdeplkmghniaaDoorSLA
import Derived.Test.YtlhdeplkmghniaaDoorSPJ
set_option linter.unusedSimpArgs false
set_option linter.unusedVariables false
set_option maxRecDepth 10000
namespace Go.Proofs.YtlhdeplkmghniaaDoor
open Go.RowKit
def jl8:List (List UInt8)→List (List UInt8×Bool)
 | []=>[]
 | [x]=>if x=[] then [] else [(x,false)]
 | x::W=>(x,true)::jl8 W
def jg4 (t:List UInt8):List (List UInt8×Bool):=jl8 (splS 10 t)
def itE (p:List UInt8×Bool):List D:=[strD p.1,bD p.2]
theorem qf5:∀(t:List UInt8),ixN 10 t<t.length→splS 10 t=t.take (ixN 10 t)::splS 10 (t.drop (ixN 10 t+1))
 | [],h=>absurd h (by simp [ixN])
 | b::t,h=>by
  by_cases e:b=10
  ·subst e
   rw [jg3,if_pos rfl]
   have e1:ixN 10 ((10:UInt8)::t)=0:=if_pos rfl
   rw [e1]
   rfl
  ·have e1:ixN 10 (b::t)=ixN 10 t+1:=if_neg e
   rw [e1] at h ⊢
   have ih:=qf5 t (by simp only [List.length_cons] at h;omega)
   rw [jg3,if_neg (fun q=>e q),ih]
   rfl
theorem qf6:∀(t:List UInt8),¬ixN 10 t<t.length→splS 10 t=[t]
 | [],_=>rfl
 | b::t,h=>by
  by_cases e:b=10
  ·subst e
   exact absurd (show ixN 10 ((10:UInt8)::t)<_ by rw [show ixN 10 ((10:UInt8)::t)=0 from if_pos rfl];exact Nat.succ_pos _) h
  ·have e1:ixN 10 (b::t)=ixN 10 t+1:=if_neg e
   rw [e1] at h
   have ih:=qf6 t (by simp only [List.length_cons] at h;omega)
   rw [jg3,if_neg (fun q=>e q),ih]
   rfl
theorem ju8:jg4 []=[]:=rfl
theorem qt5 {t:List UInt8} (h:ixN 10 t<t.length):jg4 t=(t.take (ixN 10 t),true)::jg4 (t.drop (ixN 10 t+1)):=by
 unfold jg4
 rw [qf5 t h]
 have:=jf0 10 (t.drop (ixN 10 t+1))
 cases hs:splS 10 (t.drop (ixN 10 t+1)) with
 | nil=>exact absurd hs this
 | cons a W=>rfl
theorem ks0 {t:List UInt8} (h:¬ixN 10 t<t.length) (h0:t≠[]):jg4 t=[(t,false)]:=by
 unfold jg4
 rw [qf6 t h]
 exact if_neg h0
theorem qy5 {t:List UInt8} (h:¬ixN 10 t<t.length):t.take (ixN 10 t)=t∧t.drop (ixN 10 t+1)=[] :=
 ⟨List.take_of_length_le (by omega),List.drop_eq_nil_of_le (by omega)⟩
theorem vb0 (t:List UInt8):PC (ja4 Tryd.prog) 48 [strD t] (.fn 72 (jh9 [.ip (strD t)])):=by
 have hX:=and_true;refine pcx Tryd.func48 rfl Tryd.ntmps48 Tryd.results48 rfl ?_;intro w0 A
 have hX:=And.intro and_true (and_true)
 refine rgx [1] ?_
 refine rgx [2] ?_
 refine rX ?_;refine retx ?_;(try dsimp only [outV,ja5])
 exact kc2 rfl rfl rfl
set_option maxHeartbeats 8000000 in
theorem vh4 (t:List UInt8) (ht:t.length≤140737488351232):SeqX (ja4 Tryd.prog) 72 (jh9 [.ip (strD t)]) ((jg4 t).map itE):=by
 have hX:=and_true;refine qs7 Tryd.func72 rfl Tryd.ntmps72 Tryd.results72 rfl rfl rfl ?_;intro k;refine qs0 (by simp only [jc9,Nat.reduceAdd,u32D,u8D,iD,bD,strD,jb8,jc1,jb4,jb3,jb5,jb7,jb6,jc3,jc2];exact rfl) ?_
 have hX:=And.intro and_true (and_true)
 refine rgx [0,3] ?_
 (repeat refine ja7 ?_);refine jd1 ?_
 (repeat refine ja7 ?_)
 refine jf6 (fun m g st=>∃pre r,pre++jg4 r=jg4 t∧r.length=m∧r.length≤t.length∧g=(pre.map itE,true)∧st=mk [(0,.v (.func (.yield k.l) #[] #[])),(3,strD r)] []) t.length ⟨_,WeakX.refl _,[],t,rfl,rfl,Nat.le_refl _,rfl,rfl⟩ ?_
 rintro m _ _ ⟨pre,r,hp,hm,hrt,rfl,rfl⟩
 by_cases h0:r=[]
 ·subst h0
  rw [ju8,List.append_nil] at hp
  have hX:=And.intro and_true (and_true)
  refine rgx [0,3,9] ?_
  refine iffx ?_
  refine jg5 ?_
  exact ⟨.inl rfl,fun _=>by rw [hp]⟩
 have d0:=dzF (a:=r) (b:=[]) h0
 have kc:=ve4 r 10 (by omega)
 rw [kr5] at kc
 obtain ⟨A,R,bb,hc1,hc2,hc3,hlt⟩:∃A R bb,r.take (ixN 10 r)=A∧r.drop (ixN 10 r+1)=R∧jg4 r=(A,bb)::jg4 R∧decide (ixN 10 r<r.length)=bb∧R.length<r.length:=by
  by_cases h:ixN 10 r<r.length
  ·exact ⟨_,_,true,rfl,rfl,qt5 h,decide_eq_true h,by rw [List.length_drop];omega⟩
  ·have:=qy5 h
   refine ⟨_,_,false,this.1,this.2,?_,decide_eq_false h,List.length_pos_iff.2 h0⟩
   rw [ks0 h h0,ju8]
 rw [hc1,hc2,hlt.1] at kc
 have hlt:=hlt.2
 have hpre:(pre++[(A,bb)]).map itE <+: (jg4 t).map itE:=by
  rw [← hp,hc3]
  exact List.IsPrefix.map _ ⟨jg4 R,by simp⟩
 rw [List.map_append,show ([(A,bb)]:List (List UInt8×Bool)).map itE=[itE (A,bb)] from rfl] at hpre
 have hX:=And.intro d0 (and_true)
 have hK:=And.intro (kc) trivial;refine rgx [0,3,9] ?_
 refine ifts ?_
 refine rgx [0,4,5,6] ?_
 (repeat refine ja7 ?_);refine qs3 ?_;refine jy1 3 ?_;intro w0 A0 S0 f0;simp only [List.take,List.drop];(repeat ((with_reducible show DR _ _ _ (_::_) _);first|(refine cx _ (envG _ _ _ _ _ _) rfl rfl rfl rfl rfl ?_ (hc:=by first|fail))  | (refine sx ?_)));refine ja0 ?_
 refine qg6 rfl rfl (fun _ _ _ _=>rfl) (fun _ _ _ _=>by simp only [ja6,implies_true,setD,bslF,je3,jd6,List.zip_cons_cons,List.zip_nil_right,List.zip_nil_left,ja8,rng0,rng1,rng2,rng3,rng4,rng5,rng6,rng7,rng8,List.getD_cons_zero,List.getD_cons_succ,Nat.reduceLeDiff,decide_true,decide_false,List.all_cons,List.all_nil,dqF,nilF,jg0,ja9,Op.operands,Call.operands,evD,cD,gip,upd,look,List.map,List.map_cons,List.map_nil,binF,binI,shI,binS,unF,wD,kLo,kHi,kMod,jf8,jf3,jf5,je5,je4,je7,je6,lenF,lenD,je0,jd9,minF,jd7,cutL,bndF,sub,nc,aggT,aggB,scB,tnth,elems,L_B,L_mk,List.getElem?_cons_zero,List.getElem?_cons_succ,reduceIte,reduceCtorEq,Option.isSome,List.toList_toArray,Nat.reduceAdd,Nat.reduceSub,Nat.reduceMul,Nat.reduceEqDiff,Nat.reduceLT,Nat.reduceBEq,mkF,mkG,Bool.and_true,Bool.true_and,Bool.and_false,Bool.false_and,beq_self_eq_true,mkC,Int.reduceToNat,Int.toNat_natCast,Int.reduceAdd,Int.reduceSub,Int.reduceMul,Nat.zero_add,Nat.add_zero,Nat.mul_one,and_true,true_and,Option.getD_some,Option.getD_none,ne_eq,not_true_eq_false,not_false_eq_true,decide_not,Bool.not_true,Bool.not_false,Int.reduceLT,Int.reduceLE,Int.reduceEq,Int.reduceNe,Int.reduceGT,Int.reduceGE,gt_iff_lt,ge_iff_le,Nat.reduceLT,Nat.reduceLeDiff,u32D,u8D,iD,bD,strD,jb8,jc1,jb4,jb3,jb5,jb7,jb6,jc3,jc2,Array.toList_append,List.cons_append,List.nil_append,hX];exact rfl) rfl ?_ ?_ ?_
 ·exact hpre
 ·skip
  have hX:=And.intro Bool.not_true (and_true)
  refine jy1 1 ?_;intro w0 A0 S0 f0;simp only [List.take,List.drop];(repeat ((with_reducible show DR _ _ _ (_::_) _);first|(refine cx _ (envG _ _ _ _ _ _) rfl rfl rfl rfl rfl ?_ (hc:=by first|fail))  | (refine sx ?_)));refine ja0 ?_;refine ky9 [0,5,20] (kl1 ?_)
  refine iffs ?_
  refine rgx [0,3] ?_
  refine ⟨_,R.length,WeakX.refl _,by omega,pre++[(A,bb)],R,by rw [← hp,hc3];simp,rfl,by omega,?_,rfl⟩
  rw [List.map_append]
  rfl
 ·skip
  have hX:=And.intro Bool.not_false (and_true)
  refine jy1 1 ?_;intro w0 A0 S0 f0;simp only [List.take,List.drop];(repeat ((with_reducible show DR _ _ _ (_::_) _);first|(refine cx _ (envG _ _ _ _ _ _) rfl rfl rfl rfl rfl ?_ (hc:=by first|fail))  | (refine sx ?_)));refine ja0 ?_;refine ky9 [0,5,20] (kl1 ?_)
  refine iftx ?_
  refine jp5 ?_
  exact ⟨.inr rfl,fun h=>by cases h⟩
def getI:Nat→Su→List Dd→List (List UInt8×Bool)→Su×List Dd×Nat×Int
 | n,c,out,[]=>if n=1 then (suz,[],1,6) else (c,out,0,0)
 | n,c,out,(l,w)::I=>if w=false then (suz,[],n,6) else if n=1 then (if (unS l).2=0 then getI 2 (unS l).1 out I else (suz,[],1,6)) else if (parO l).2=0 then (if out.length=4096 then (suz,[],n,7) else getI (n+1) c (out++[(parO l).1]) I) else (suz,[],n,(parO l).2)
theorem qc2 (c:Su):∀(W:List (List UInt8)) (n:Nat) (out:List Dd),W≠[]→2≤n→getI n c out (jl8 W)=getT c n out W
 | [],_,_,h,_=>absurd rfl h
 | [x],n,out,_,hn=>by
  by_cases hx:x=[]
  ·subst hx
   show getI n c out []=_
   simp only [getI,getT]
   rw [if_neg (by omega),if_pos trivial]
  ·show getI n c out (if x=[] then [] else [(x,false)])=_
   rw [if_neg hx]
   simp only [getI,getT]
   rw [if_neg hx]
   rfl
 | x::y::W,n,out,_,hn=>by
  show getI n c out ((x,true)::jl8 (y::W))=_
  simp only [getI,getT]
  rw [if_neg (by decide),if_neg (by omega)]
  by_cases h:(parO x).2=0
  ·rw [if_pos h,if_pos h]
   by_cases h2:out.length=4096
   ·rw [if_pos h2,if_pos h2]
   ·rw [if_neg h2,if_neg h2]
    exact qc2 c (y::W) (n+1) _ (List.cons_ne_nil _ _) (by omega)
  ·rw [if_neg h,if_neg h]
theorem qc1 (t:List UInt8):getI 1 suz [] (jg4 t)=getO t:=by
 unfold jg4 getO
 have hne:=jf0 10 t
 match splS 10 t,hne with
 | [],h=>exact absurd rfl h
 | [x],_ =>
  show getI 1 suz [] (if x=[] then [] else [(x,false)])=(suz,[],1,6)
  by_cases hx:x=[]
  ·rw [if_pos hx];rfl
  ·rw [if_neg hx];rfl
 | x::y::W,_ =>
  show getI 1 suz [] ((x,true)::jl8 (y::W))=if (unS x).2=0 then getT (unS x).1 2 [] (y::W) else (suz,[],1,6)
  simp only [getI]
  rw [if_neg (by decide),if_pos trivial]
  by_cases h:(unS x).2=0
  ·rw [if_pos h,if_pos h]
   exact qc2 _ (y::W) 2 [] (List.cons_ne_nil _ _) (Nat.le_refl _)
  ·rw [if_neg h,if_neg h]
theorem qq7 (t:List UInt8):(unS t).2=0∨unS t=(suz,6):=by
 unfold unS
 split
 ·exact .inl rfl
 ·exact .inr rfl
theorem km8 (t:List UInt8):(parO t).2=0∨parO t=(ddz,6):=by
 unfold parO
 split
 ·exact .inl rfl
 ·exact .inr rfl
def stJ (I:List (List UInt8×Bool)):Nat→Option (Su×List Dd)
 | 0=>some (suz,[])
 | j+1=>match stJ I j,I[j]? with
  | some (c,out),some (l,true)=>if j=0 then (if (unS l).2=0 then some ((unS l).1,out) else none) else if (parO l).2=0∧¬out.length=4096 then some (c,out++[(parO l).1]) else none
  | _,_=>none
theorem kw2 {I:List (List UInt8×Bool)}:∀{j:Nat}{c:Su}{out:List Dd},stJ I j=some (c,out)→getI (j+1) c out (I.drop j)=getI 1 suz [] I∧out.length=j-1∧out.length≤4096
 | 0,c,out,h=>by
  simp only [stJ,Option.some.injEq,Prod.mk.injEq] at h
  obtain ⟨rfl,rfl⟩:=h
  exact ⟨rfl,rfl,Nat.zero_le _⟩
 | j+1,c,out,h=>by
  simp only [stJ] at h
  split at h
  ·rename_i c0 out0 l h1 h2
   obtain ⟨ih,hl,hl2⟩:=kw2 h1
   have hd:I.drop j=(l,true)::I.drop (j+1):=by
    obtain ⟨hlt,e⟩:=List.getElem?_eq_some_iff.1 h2
    rw [List.drop_eq_getElem_cons hlt,e]
   rw [hd] at ih
   simp only [getI] at ih
   rw [if_neg (by decide)] at ih
   split at h
   ·rename_i hj
    subst hj
    split at h
    ·rename_i hu
     simp only [Option.some.injEq,Prod.mk.injEq] at h
     obtain ⟨rfl,rfl⟩:=h
     rw [if_pos rfl,if_pos hu] at ih
     exact ⟨ih,by omega,hl2⟩
    ·cases h
   ·rename_i hj
    split at h
    ·rename_i hp
     simp only [Option.some.injEq,Prod.mk.injEq] at h
     obtain ⟨rfl,rfl⟩:=h
     rw [if_neg (by omega),if_pos hp.1,if_neg hp.2] at ih
     refine ⟨ih,?_,?_⟩
     ·rw [List.length_append,List.length_cons,List.length_nil];omega
     ·rw [List.length_append,List.length_cons,List.length_nil];omega
    ·cases h
  ·cases h
theorem kj9:∀{W:List (List UInt8)} (p:List UInt8×Bool),p ∈ jl8 W→p.1 ∈ W
 | [],p,h=>absurd h (by simp [jl8])
 | [x],p,h=>by
  simp only [jl8] at h
  split at h
  ·cases h
  ·rw [List.mem_singleton] at h;rw [h];exact List.mem_cons_self
 | x::y::W,p,h=>by
  simp only [jl8] at h
  rcases List.mem_cons.1 h with h|h
  ·rw [h];exact List.mem_cons_self
  ·exact List.mem_cons_of_mem _ (kj9 (W:=y::W) p h)
theorem kf5:∀W:List (List UInt8),(jl8 W).length≤W.length
 | []=>Nat.le_refl _
 | [x]=>by
  simp only [jl8]
  split
  ·exact Nat.zero_le _
  ·exact Nat.le_refl _
 | x::y::W=>by
  simp only [jl8,List.length_cons]
  have:=kf5 (y::W)
  simp only [List.length_cons] at this
  omega
theorem qi9 (t:List UInt8):∀p ∈ jg4 t,p.1.length≤t.length:=fun p hp=>ju1 10 _ t _ (kj9 p hp)
theorem qb6 (t:List UInt8):(jg4 t).length≤t.length+1:=by
 refine Nat.le_trans (kf5 _) ?_
 unfold splS
 rw [jn6]
 have:t.count 10≤t.length:=List.count_le_length
 omega
end Go.Proofs.YtlhdeplkmghniaaDoor
