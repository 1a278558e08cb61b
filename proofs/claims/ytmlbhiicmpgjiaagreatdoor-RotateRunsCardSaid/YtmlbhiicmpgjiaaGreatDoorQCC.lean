/- Texts and lists as bytes; a text is read. Lists as bytes. Texts, one by one, out of bytes. -/
import Derived.Test.YtmlbhiicmpgjiaaGreatDoorQPD
import Derived.Test.YtmlbhiicmpgjiaaGreatDoorQCB
set_option linter.unusedSimpArgs false
set_option linter.unusedVariables false
set_option maxRecDepth 10000
namespace Go.Proofs.YtmlbhiicmpgjiaaGreatDoor
open Go.RowKit
def gtD (r:List UInt8×Nat×Int):D:=.tup (.cons (strD r.1) (.cons (iD (r.2.1:Int)) (.cons (iD r.2.2) .nil)))
theorem vg1 (u n:Nat):((u:Int)+(n:Int)).toNat=u+n:=by omega
theorem vj9 (s:List UInt8) (u n:Nat):(s.take (u+n)).drop u=(s.drop u).take n:=by rw [List.drop_take];congr 1;omega
set_option maxHeartbeats 8000000 in
theorem vc5 (s:List UInt8) (hs:s.length≤4611686018427387904):PC (ja9 Tryz.prog) 121 [strD s] (gtD (gtxS s)):=by
 have kg:=kq6 s
 obtain ⟨hu,hu7,hn⟩:=jz5 (s:=s)
 unfold gtxS
 generalize getS s=r at *
 obtain ⟨n,u,e⟩:=r
 simp only at hu hu7 hn ⊢
 have kg:PC (ja9 Tryz.prog) 102 [strD s] (.tup (.cons (qD n) (.cons (iD (u:Int)) (.cons (iD e) .nil)))):=kg
 by_cases he:e=0
 ·subst he
  rw [if_neg (by simp)]
  by_cases h1:8192<n
  ·rw [if_pos h1]
   have d1:decide ((8192:Int)<(n:Int))=true:=decide_eq_true (by omega)
   have hX:=and_true;refine ja7 Tryz.func121 rfl Tryz.ntmps121 Tryz.results121 rfl (by exact dz8) ?_;intro w0 A
   have hX:=And.intro je8 (d1)
   have hK:=And.intro (kg) trivial;(repeat refine ja0 ?_);refine rgx [0] ?_
   (repeat refine ja0 ?_);refine rgx [0,5,6,7] ?_
   (repeat refine ja0 ?_);refine ja8 ?_
   (repeat refine ja0 ?_);refine rgx [0,5,6,7,15] ?_
   (repeat refine ja0 ?_);refine iffx ?_
   (repeat refine ja0 ?_);refine rgx [0,5,6,19] ?_
   (repeat refine ja0 ?_);refine iftx ?_
   (repeat refine ja0 ?_);refine rgx [2,3,4] ?_
   (repeat refine ja0 ?_);refine ja5 ?_;refine retx ?_;(try dsimp only [outV,ja4])
   exact ja2 rfl
  ·rw [if_neg h1]
   have d1:decide ((8192:Int)<(n:Int))=false:=decide_eq_false (by omega)
   have e1:((s.length:Int)-(u:Int)) % 18446744073709551616=(s.length:Int)-(u:Int):=by omega
   by_cases h2:s.length<u+n
   ·rw [if_pos h2]
    have d2:decide ((s.length:Int)-(u:Int)<(n:Int))=true:=decide_eq_true (by omega)
    have hX:=and_true;refine ja7 Tryz.func121 rfl Tryz.ntmps121 Tryz.results121 rfl (by exact dz8) ?_;intro w0 A
    have hX:=And.intro je8 (And.intro d1 (And.intro e1 (d2)))
    have hK:=And.intro (kg) trivial;(repeat refine ja0 ?_);refine rgx [0] ?_
    (repeat refine ja0 ?_);refine rgx [0,5,6,7] ?_
    (repeat refine ja0 ?_);refine ja8 ?_
    (repeat refine ja0 ?_);refine rgx [0,5,6,7,15] ?_
    (repeat refine ja0 ?_);refine iffx ?_
    (repeat refine ja0 ?_);refine rgx [0,5,6,19] ?_
    (repeat refine ja0 ?_);refine iffx ?_
    (repeat refine ja0 ?_);refine rgx [0,5,6,22] ?_
    (repeat refine ja0 ?_);refine iftx ?_
    (repeat refine ja0 ?_);refine rgx [2,3,4] ?_
    (repeat refine ja0 ?_);refine ja5 ?_;refine retx ?_;(try dsimp only [outV,ja4])
    exact ja2 rfl
   ·rw [if_neg h2]
    have d2:decide ((s.length:Int)-(u:Int)<(n:Int))=false:=decide_eq_false (by omega)
    have e2:=vg1 u n
    have e3:=vj9 s u n
    have hX:=and_true;refine ja7 Tryz.func121 rfl Tryz.ntmps121 Tryz.results121 rfl (by exact dz8) ?_;intro w0 A
    have hX:=And.intro je8 (And.intro d1 (And.intro e1 (d2)))
    have hK:=And.intro (kg) trivial;(repeat refine ja0 ?_);refine rgx [0] ?_
    (repeat refine ja0 ?_);refine rgx [0,5,6,7] ?_
    (repeat refine ja0 ?_);refine ja8 ?_
    (repeat refine ja0 ?_);refine rgx [0,5,6,7,15] ?_
    (repeat refine ja0 ?_);refine iffx ?_
    (repeat refine ja0 ?_);refine rgx [0,5,6,19] ?_
    (repeat refine ja0 ?_);refine iffx ?_
    (repeat refine ja0 ?_);refine rgx [0,5,6,22] ?_
    (repeat refine ja0 ?_);refine iffx ?_
    (repeat refine ja0 ?_);refine ja6 ?_
    (repeat refine ja0 ?_);refine rgx [0,6,8] ?_
    have hX:=And.intro je8 (And.intro e2 (e3))
    (repeat refine ja0 ?_);refine rgx [2,3,4] ?_
    (repeat refine ja0 ?_);refine ja5 ?_;refine retx ?_;(try dsimp only [outV,ja4])
    exact ja2 rfl
 ·rw [if_pos he]
  have d1:decide (e=0)=false:=decide_eq_false he
  have hX:=and_true;refine ja7 Tryz.func121 rfl Tryz.ntmps121 Tryz.results121 rfl (by exact dz8) ?_;intro w0 A
  have hX:=And.intro je8 (d1)
  have hK:=And.intro (kg) trivial;(repeat refine ja0 ?_);refine rgx [0] ?_
  (repeat refine ja0 ?_);refine rgx [0,5,6,7] ?_
  (repeat refine ja0 ?_);refine ja8 ?_
  (repeat refine ja0 ?_);refine rgx [0,5,6,7,15] ?_
  (repeat refine ja0 ?_);refine iftx ?_
  (repeat refine ja0 ?_);refine rgx [2,3,4] ?_
  (repeat refine ja0 ?_);refine ja5 ?_;refine retx ?_;(try dsimp only [outV,ja4])
  exact ja2 rfl

def tbS (t:List UInt8):List UInt8:=if 8192<t.length then [] else txS t
def tbE (t:List UInt8):Int:=if 8192<t.length then 7 else 0
set_option maxHeartbeats 8000000 in
theorem vf2 (t:List UInt8):PC (ja9 Tryz.prog) 80 [strD t] (teD (tbS t) (tbE t)):=by
 unfold tbS tbE
 by_cases h:8192<t.length
 ·rw [if_pos h,if_pos h]
  have d1:decide ((8192:Int)<(t.length:Int))=true:=decide_eq_true (by omega)
  have hX:=and_true;refine ja7 Tryz.func80 rfl Tryz.ntmps80 Tryz.results80 rfl (by exact dz8) ?_;intro w0 A
  have hX:=And.intro d1 (and_true)
  (repeat refine ja0 ?_);refine rgx [0] ?_
  (repeat refine ja0 ?_);refine rgx [0,8] ?_
  (repeat refine ja0 ?_);refine iftx ?_
  (repeat refine ja0 ?_);refine rgx [2,3] ?_
  (repeat refine ja0 ?_);refine ja5 ?_;refine retx ?_;(try dsimp only [outV,ja4])
  exact ja2 rfl
 ·rw [if_neg h,if_neg h]
  have d1:decide ((8192:Int)<(t.length:Int))=false:=decide_eq_false (by omega)
  have e1:(t.length:Int) % 18446744073709551616=(t.length:Int):=by omega
  have kn:=kr1 t.length (by omega)
  have h1:numS t.length=varN t.length:=if_neg (by omega)
  have h2:numE t.length=0:=if_neg (by omega)
  have hl:=ji3 t.length
  rw [h1,h2] at kn
  have hX:=and_true;refine ja7 Tryz.func80 rfl Tryz.ntmps80 Tryz.results80 rfl (by exact dz8) ?_;intro w0 A
  have hX:=And.intro d1 (And.intro e1 (jm6))
  have hK:=And.intro (kn) trivial;(repeat refine ja0 ?_);refine rgx [0] ?_
  (repeat refine ja0 ?_);refine rgx [0,8] ?_
  (repeat refine ja0 ?_);refine iffx ?_
  (repeat refine ja0 ?_);refine ja6 ?_
  (repeat refine ja0 ?_);refine rgx [0,4] ?_
  (repeat refine ja0 ?_);refine rgx [2,3] ?_
  (repeat refine ja0 ?_);refine ja5 ?_;refine retx ?_;(try dsimp only [outV,ja4])
  exact ja2 rfl
def ji2 (l:List (List UInt8)):D:=.sl l ([]:List UInt8) strD
theorem jh7 (l:List (List UInt8)):ji2 l = .sl l ([]:List UInt8) (fun t=>.v (.string (B t))):=rfl
def lisN (l:List (List UInt8)) (k:Nat):List UInt8:=varN l.length++((l.take k).map txS).flatten
theorem kl0 (l:List (List UInt8)):lisN l 0=varN l.length:=by simp [lisN]
theorem qj2 (l:List (List UInt8)):lisN l l.length=lisB l:=by simp [lisN,lisB]
theorem kk9 {l:List (List UInt8)}{k:Nat} (h:k<l.length):lisN l (k+1)=lisN l k++txS (l.getD k []):=by
 unfold lisN
 have e:l.take (k+1)=l.take k++[l[k]]:=by rw [List.take_add_one,List.getElem?_eq_getElem h];rfl
 rw [e,List.map_append,List.flatten_append,← List.append_assoc,List.getD_eq_getElem?_getD,List.getElem?_eq_getElem h]
 simp
theorem kb6 (l:List (List UInt8)):∀k,k≤l.length→(∀i,i<k→(l.getD i []).length≤8192)→(lisN l k).length≤11+8203*k
 | 0,_,_=>by rw [kl0];have:=ji3 l.length;omega
 | k+1,hk,h=>by
  have ih:=kb6 l k (by omega) (fun i hi=>h i (by omega))
  have h1:=h k (by omega)
  have h2:=ji3 (l.getD k []).length
  rw [kk9 (by omega),List.length_append,txS,List.length_append]
  omega
theorem vl3 (l:List (List UInt8)) (k:Nat):0<(lisN l k).length:=by
 have:=vo3 l.length
 unfold lisN
 rw [List.length_append]
 omega
theorem qc0 {l:List (List UInt8)} (h:256<l.length):lisE l=7:=if_pos (.inl h)
theorem qb9 {l:List (List UInt8)}{k:Nat} (hk:k<l.length) (h:8192<(l.getD k []).length):lisE l=7:=by
 refine if_pos (.inr ⟨_,List.getElem_mem hk,?_⟩)
 rwa [List.getD_eq_getElem?_getD,List.getElem?_eq_getElem hk] at h
theorem qb8 {l:List (List UInt8)} (h:¬256<l.length) (h2:∀i,i<l.length→(l.getD i []).length≤8192):lisE l=0:=by
 refine lisE_ok.2 ⟨by omega,fun t ht=>?_⟩
 obtain ⟨i,hi,rfl⟩:=List.getElem_of_mem ht
 have:=h2 i hi
 rwa [List.getD_eq_getElem?_getD,List.getElem?_eq_getElem hi] at this
def lisS (l:List (List UInt8)):List UInt8:=if lisE l=0 then lisB l else []
theorem mapB (A C:List UInt8):(A++C).map jc0=A.map jc0++C.map jc0:=List.map_append
set_option maxHeartbeats 8000000 in
theorem vd7 (l:List (List UInt8)):PC (ja9 Tryz.prog) 38 [ji2 l] (teD (lisS l) (lisE l)):=by
 unfold lisS
 by_cases h:256<l.length
 ·rw [qc0 h,if_neg (by decide)]
  have d1:decide ((256:Int)<(l.length:Int))=true:=decide_eq_true (by omega)
  have hX:=and_true;refine ja7 Tryz.func38 rfl Tryz.ntmps38 Tryz.results38 rfl (by exact dz8) ?_;intro w0 A
  have hX:=And.intro jh7 (d1)
  (repeat refine ja0 ?_);refine rgx [0] ?_
  (repeat refine ja0 ?_);refine rgx [0,9] ?_
  (repeat refine ja0 ?_);refine iftx ?_
  (repeat refine ja0 ?_);refine rgx [2,3] ?_
  (repeat refine ja0 ?_);refine ja5 ?_;refine retx ?_;(try dsimp only [outV,ja4])
  exact ja2 rfl
 ·have d1:decide ((256:Int)<(l.length:Int))=false:=decide_eq_false (by omega)
  have e1:(l.length:Int) % 18446744073709551616=(l.length:Int):=by omega
  have kp:=vp6 l.length (by omega)
  rw [← kl0] at kp
  have hz:=kb6 l 0 (by omega) (fun i hi=>absurd hi (by omega))
  have hX:=and_true;refine ja7 Tryz.func38 rfl Tryz.ntmps38 Tryz.results38 rfl (by exact dz8) ?_;intro w0 A
  have hX:=And.intro jh7 (d1)
  (repeat refine ja0 ?_);refine rgx [0] ?_
  (repeat refine ja0 ?_);refine rgx [0,9] ?_
  (repeat refine ja0 ?_);refine iffx ?_
  (repeat refine ja0 ?_);refine ja6 ?_
  have hX:=And.intro jh7 (And.intro je8 (e1))
  (repeat refine ja0 ?_);refine jb2 [0,4] ?_;intro w0 A S0 f0
  iterate 3 ((with_reducible show DR _ _ _ (_::_) _);first|(refine cx _ (envG _ _ _ _ _ _) rfl rfl rfl rfl rfl ?_ (hc:=by first|fail))  | (refine sx ?_))
  refine ex rfl (ji6 (envG _ _ _ _ _ _) rfl rfl rfl (hc:=kp) (hx:=by exact dsb)) ?_
  (repeat ((with_reducible show DR _ _ _ (_::_) _);first|(refine cx _ (envG _ _ _ _ _ _) rfl rfl rfl rfl rfl ?_ (hc:=by first|fail))  | (refine sx ?_)));refine ja1 ?_;refine kl1 ?_
  (repeat refine ja0 ?_);refine rgx [4,14,15,16] ?_
  (repeat refine ja0 ?_);refine ja8 ?_
  (repeat refine ja0 ?_);refine jd4 (fun m _ st=>∃k,k+m=l.length∧(∀i,i<k→(l.getD i []).length≤8192)∧st=mk [(4,.own 0 (lisN l k).length 5 1),(14,ji2 l),(15,iD (l.length:Int)),(16,iD (k:Int))] [some (.row ((lisN l k).map jc0) 5 1)]) l.length ⟨_,WeakX.refl _,0,by omega,fun i hi=>absurd hi (by omega),rfl⟩ ?_
  rintro m _ _ ⟨k,hk,hall,rfl⟩
  have hX:=And.intro jh7 (and_true)
  (repeat refine ja0 ?_);refine rgx [4,14,15,16,17] ?_
  (repeat refine ja0 ?_);refine ifx ?_ ?_
  ·intro hc;(try simp only [hcs,ne_eq] at hc)
   have hkn:k<l.length:=by omega
   have hnl:=kb6 l k (by omega) hall
   have hnp:=vl3 l k
   have hns:=kk9 hkn
   have hlong:=fun h8=>qb9 hkn h8
   have hall2:(l.getD k []).length≤8192→∀i,i<k+1→(l.getD i []).length≤8192:=fun h8 i hi=>by
    by_cases e:i=k
    ·rw [e];exact h8
    ·exact hall i (by omega)
   obtain ⟨t,ht⟩:∃t,l.getD k []=t:=⟨_,rfl⟩
   rw [ht] at hns hlong hall2
   (repeat refine ja0 ?_);refine ja6 ?_
   (repeat refine ja0 ?_);refine ja8 ?_
   have hX:=And.intro jh7 (ht)
   (repeat refine ja0 ?_);refine rgx [4,6,14,15,16] ?_
   by_cases h8:8192<t.length
   ·have d2:decide ((8192:Int)<(t.length:Int))=true:=decide_eq_true (by omega)
    rw [hlong h8,if_neg (by decide)]
    have hX:=And.intro d2 (and_true)
    (repeat refine ja0 ?_);refine rgx [4,6,14,15,16,22] ?_
    (repeat refine ja0 ?_);refine iftx ?_
    (repeat refine ja0 ?_);refine rgx [2,3] ?_
    (repeat refine ja0 ?_);refine ja5 ?_;refine retx ?_;(try dsimp only [outV,ja4])
    exact ja2 rfl
   ·have d2:decide ((8192:Int)<(t.length:Int))=false:=decide_eq_false (by omega)
    replace hall2:=hall2 (by omega)
    clear hall hlong
    have hvl:=ji3 t.length
    have kr:=wc3 (lisN l k) t.length (by omega) (by omega) hnp
    have hRl:(lisN l k++varN t.length).length=(lisN l k).length+(varN t.length).length:=List.length_append
    have hLne:(lisN l k++varN t.length).map jc0≠[]:=by intro h;rw [List.map_eq_nil_iff] at h;rw [h] at hRl;simp at hRl;omega
    have e2:(t.length:Int) % 18446744073709551616=(t.length:Int):=by omega
    have hfin:lisN l (k+1)=(lisN l k++varN t.length)++t:=by rw [hns,txS,List.append_assoc]
    generalize hR:lisN l k++varN t.length=R at *
    generalize lisN l k=L0 at *
    have hX:=And.intro d2 (and_true)
    (repeat refine ja0 ?_);refine rgx [4,6,14,15,16,22] ?_
    (repeat refine ja0 ?_);refine iffx ?_
    (repeat refine ja0 ?_);refine ja6 ?_
    have hX:=And.intro je8 (e2)
    (repeat refine ja0 ?_);refine jb2 [4,14,15,16] ?_;intro w0 A S0 f0
    iterate 4 ((with_reducible show DR _ _ _ (_::_) _);first|(refine cx _ (envG _ _ _ _ _ _) rfl rfl rfl rfl rfl ?_ (hc:=by first|fail))  | (refine sx ?_))
    refine ex rfl (kb3 (envG _ _ _ _ _ _) kr hLne rfl rfl rfl rfl) ?_
    (repeat ((with_reducible show DR _ _ _ (_::_) _);first|(refine cx _ (envG _ _ _ _ _ _) rfl rfl rfl rfl rfl ?_ (hc:=by first|fail))  | (refine sx ?_)));refine ja1 ?_;refine kl1 ?_
    (repeat refine ja0 ?_);refine rgx [4,14,15,16] ?_
    refine ⟨_,m-1,WeakX.refl _,by omega,k+1,by omega,hall2,?_⟩
    rw [hfin,mapB,List.length_append]
    simp only [List.length_map]
    first|rfl|simp [iD,ji2]
  ·intro hc;(try simp only [hcs,ne_eq] at hc)
   obtain rfl:k=l.length:=by omega
   have hnl:=kb6 l l.length (by omega) hall
   rw [qb8 h hall,if_pos rfl,← qj2]
   (repeat refine ja0 ?_);refine jd3 ?_
   have hX:=And.intro hnl (and_true)
   (repeat refine ja0 ?_);refine rgx [2,3] ?_
   (repeat refine ja0 ?_);refine ja5 ?_;refine retx ?_;(try dsimp only [outV,ja4])
   exact ja2 rfl
set_option maxHeartbeats 8000000 in
theorem ve9 (l:List (List UInt8)):PC (ja9 Tryz.prog) 53 [ji2 l] (teD (lisS l) (lisE l)):=by
 unfold lisS
 by_cases h:256<l.length
 ·rw [qc0 h,if_neg (by decide)]
  have d1:decide ((256:Int)<(l.length:Int))=true:=decide_eq_true (by omega)
  have hX:=and_true;refine ja7 Tryz.func53 rfl Tryz.ntmps53 Tryz.results53 rfl (by exact dz8) ?_;intro w0 A
  have hX:=And.intro jh7 (d1)
  (repeat refine ja0 ?_);refine rgx [0] ?_
  (repeat refine ja0 ?_);refine rgx [0,12] ?_
  (repeat refine ja0 ?_);refine iftx ?_
  (repeat refine ja0 ?_);refine rgx [2,3] ?_
  (repeat refine ja0 ?_);refine ja5 ?_;refine retx ?_;(try dsimp only [outV,ja4])
  exact ja2 rfl
 ·have d1:decide ((256:Int)<(l.length:Int))=false:=decide_eq_false (by omega)
  have e1:(l.length:Int) % 18446744073709551616=(l.length:Int):=by omega
  have kn:=kr1 l.length (by omega)
  have h1:numS l.length=lisN l 0:=by rw [kl0];exact if_neg (by omega)
  have h2:numE l.length=0:=if_neg (by omega)
  rw [h1,h2] at kn
  have hX:=and_true;refine ja7 Tryz.func53 rfl Tryz.ntmps53 Tryz.results53 rfl (by exact dz8) ?_;intro w0 A
  have hX:=And.intro jh7 (d1)
  have hK:=And.intro (kn) trivial;(repeat refine ja0 ?_);refine rgx [0] ?_
  (repeat refine ja0 ?_);refine rgx [0,12] ?_
  (repeat refine ja0 ?_);refine iffx ?_
  (repeat refine ja0 ?_);refine ja6 ?_
  have hX:=And.intro jh7 (And.intro jm6 (e1))
  (repeat refine ja0 ?_);refine rgx [0,4] ?_
  (repeat refine ja0 ?_);refine rgx [4,20,21,22] ?_
  (repeat refine ja0 ?_);refine ja8 ?_
  (repeat refine ja0 ?_);refine jd4 (fun m _ st=>∃k,k+m=l.length∧(∀i,i<k→(l.getD i []).length≤8192)∧st=mk [(4,strD (lisN l k)),(20,ji2 l),(21,iD (l.length:Int)),(22,iD (k:Int))] []) l.length ⟨_,WeakX.refl _,0,by omega,fun i hi=>absurd hi (by omega),rfl⟩ ?_
  rintro m _ _ ⟨k,hk,hall,rfl⟩
  have hX:=And.intro jh7 (and_true)
  (repeat refine ja0 ?_);refine rgx [4,20,21,22,23] ?_
  (repeat refine ja0 ?_);refine ifx ?_ ?_
  ·intro hc;(try simp only [hcs,ne_eq] at hc)
   have hkn:k<l.length:=by omega
   have hnl:=kb6 l k (by omega) hall
   have hns:=kk9 hkn
   have hlong:=fun h8=>qb9 hkn h8
   have hall2:(l.getD k []).length≤8192→∀i,i<k+1→(l.getD i []).length≤8192:=fun h8 i hi=>by
    by_cases e:i=k
    ·rw [e];exact h8
    ·exact hall i (by omega)
   obtain ⟨t,ht⟩:∃t,l.getD k []=t:=⟨_,rfl⟩
   rw [ht] at hns hlong hall2
   have kt:=vf2 t
   (repeat refine ja0 ?_);refine ja6 ?_
   (repeat refine ja0 ?_);refine ja8 ?_
   have hX:=And.intro jh7 (And.intro ht (jm6))
   have hK:=And.intro (kt) trivial;(repeat refine ja0 ?_);refine rgx [4,7,20,21,22] ?_
   (repeat refine ja0 ?_);refine rgx [4,8,9,20,21,22] ?_
   by_cases h8:8192<t.length
   ·have hE:tbE t=7:=if_pos h8
    rw [hlong h8,if_neg (by decide),hE]
    have hX:=And.intro jh7 (and_true)
    (repeat refine ja0 ?_);refine rgx [4,8,9,20,21,22,32] ?_
    (repeat refine ja0 ?_);refine iftx ?_
    (repeat refine ja0 ?_);refine rgx [2,3] ?_
    (repeat refine ja0 ?_);refine ja5 ?_;refine retx ?_;(try dsimp only [outV,ja4])
    exact ja2 rfl
   ·have hE:tbE t=0:=if_neg h8
    have hS:tbS t=txS t:=if_neg h8
    have htl:(txS t).length≤8203:=by have:=ji3 t.length;rw [txS,List.length_append];omega
    rw [hE,hS]
    have hX:=And.intro jh7 (and_true)
    (repeat refine ja0 ?_);refine rgx [4,8,9,20,21,22,32] ?_
    (repeat refine ja0 ?_);refine iffx ?_
    (repeat refine ja0 ?_);refine ja6 ?_
    (repeat refine ja0 ?_);refine rgx [4,20,21,22] ?_
    (repeat refine ja0 ?_);refine rgx [4,20,21,22] ?_
    exact ⟨_,m-1,WeakX.refl _,by omega,k+1,by omega,hall2 (by omega),by rw [hns];first|rfl|simp [iD,ji2]⟩
  ·intro hc;(try simp only [hcs,ne_eq] at hc)
   obtain rfl:k=l.length:=by omega
   rw [qb8 h hall,if_pos rfl,← qj2]
   (repeat refine ja0 ?_);refine jd3 ?_
   (repeat refine ja0 ?_);refine rgx [2,3] ?_
   (repeat refine ja0 ?_);refine ja5 ?_;refine retx ?_;(try dsimp only [outV,ja4])
   exact ja2 rfl
def rdD (a:Nat) (e:Int):D:=.cons (iD (a:Int)) (.cons (iD e) .nil)
theorem qk2 (a:Nat) (e:Int):rdD a e = .cons (.v (.int .i64 (a:Int))) (.cons (.v (.int .i64 e)) .nil):=rfl
def itT (s:List UInt8):Nat→List (List D)
 | 0=>[]
 | k+1=>if (runT s k).2.2≠0 then itT s k else itT s k++[[strD (gtxS (s.drop (runT s k).2.1)).1,rdD ((runT s k).2.1+(gtxS (s.drop (runT s k).2.1)).2.1) (gtxS (s.drop (runT s k).2.1)).2.2]]
theorem kd6 {s:List UInt8}{k:Nat} (h:(runT s k).2.2≠0):∀j,runT s (k+j)=runT s k∧itT s (k+j)=itT s k
 | 0=>⟨rfl,rfl⟩
 | j+1=>by
  obtain ⟨h1,h2⟩:=kd6 h j
  have h3:(runT s (k+j)).2.2≠0:=by rw [h1];exact h
  rw [← Nat.add_assoc,runT,itT,if_pos h3,if_pos h3]
  exact ⟨h1,h2⟩
theorem qt0 (s:List UInt8) (k:Nat):∀j,itT s k <+: itT s (k+j)
 | 0=>List.prefix_refl _
 | j+1=>by
  refine (qt0 s k j).trans ?_
  rw [← Nat.add_assoc,itT]
  split
  ·exact List.prefix_refl _
  ·exact List.prefix_append _ _
theorem qp1 {s:List UInt8}{k j:Nat} (h:(runT s (k+j)).2.2=0):(runT s k).2.2=0:=by
 refine Classical.byContradiction fun h1=>?_
 rw [(kd6 h1 j).1] at h
 exact h1 h
theorem kn8 {s:List UInt8}:∀k,(runT s k).2.2=0→(itT s k).length=k
 | 0,_=>rfl
 | k+1,h=>by
  have h1:=qp1 (j:=1) h
  rw [itT,if_neg (by simpa using h1),List.length_append,kn8 k h1];rfl
theorem qi8 {s:List UInt8}:∀{n:Nat}{pre:List (List D)}{x:List D},pre++[x] <+: itT s n→pre.length<n∧(runT s pre.length).2.2=0∧x=[strD (gtxS (s.drop (runT s pre.length).2.1)).1,rdD ((runT s pre.length).2.1+(gtxS (s.drop (runT s pre.length).2.1)).2.1) (gtxS (s.drop (runT s pre.length).2.1)).2.2]∧pre=itT s pre.length
 | 0,pre,x,h=>by
  have:=h.length_le
  simp [itT] at this
 | n+1,pre,x,h=>by
  rw [itT] at h
  split at h
  ·obtain ⟨h1,h2,h3,h4⟩:=qi8 h
   exact ⟨by omega,h2,h3,h4⟩
  ·rename_i h0
   rcases List.prefix_concat_iff.1 h with h1|h1
   ·have hl:=List.append_inj' h1 rfl
    have h2:(runT s n).2.2=0:=by simpa using h0
    have h3:=kn8 n h2
    obtain ⟨e1,e2⟩:=hl
    subst e1
    rw [h3]
    refine ⟨by omega,h2,?_,rfl⟩
    injection e2
   ·obtain ⟨h1,h2,h3,h4⟩:=qi8 h1
    exact ⟨by omega,h2,h3,h4⟩
theorem vy8 (s:List UInt8) (n:Nat):PC (ja9 Tryz.prog) 103 [strD s,qD n] (.fn 120 (ji7 [.ip (qD n),.ip (strD s)])):=by
 have hX:=and_true;refine ja7 Tryz.func103 rfl Tryz.ntmps103 Tryz.results103 rfl (by exact dz8) ?_;intro w0 A
 have hX:=And.intro je8 (and_true)
 (repeat refine ja0 ?_);refine rgx [2,3] ?_
 (repeat refine ja0 ?_);refine rgx [4] ?_
 (repeat refine ja0 ?_);refine ja5 ?_;refine retx ?_;(try dsimp only [outV,ja4])
 exact km9 rfl rfl rfl
set_option maxHeartbeats 8000000 in
theorem wd1 (s:List UInt8) (n:Nat) (hs:s.length≤4611686018427387904) (hn:n≤281474976710656):SeqX (ja9 Tryz.prog) 120 (ji7 [.ip (qD n),.ip (strD s)]) (itT s n):=by
 have hX:=and_true;refine kn0 Tryz.func120 rfl Tryz.ntmps120 Tryz.results120 rfl rfl rfl ?_;intro k;refine ka2 (by exact dz8) ?_
 have hX:=And.intro je8 (and_true)
 (repeat refine ja0 ?_);refine rgx [0,1,2,4] ?_
 (repeat refine ja0 ?_);refine rgx [0,2,4,8,9] ?_
 (repeat refine ja0 ?_);refine ja8 ?_
 (repeat refine ja0 ?_);refine jd4 (fun m g st=>∃j,j+m=n∧(runT s j).2.2=0∧g=(itT s j,true)∧st=mk [(0,.v (.func (.yield k.l) #[] #[])),(2,.ip (strD s)),(4,iD ((runT s j).2.1:Int)),(8,qD n),(9,qD j)] []) n ⟨_,WeakX.refl _,0,by omega,rfl,rfl,rfl⟩ ?_
 rintro m _ _ ⟨j,hj,hj0,rfl,rfl⟩
 have hX:=And.intro je8 (and_true)
 (repeat refine ja0 ?_);refine rgx [0,2,4,8,9,10] ?_
 (repeat refine ja0 ?_);refine ifx ?_ ?_
 ·intro hc;(try simp only [hcs,ne_eq] at hc)
  have hjn:j<n:=by omega
  have hus:=kd7 s j
  have hpre:=qt0 s (j+1) (n-(j+1))
  rw [show j+1+(n-(j+1))=n by omega] at hpre
  have hit:itT s (j+1)=itT s j++[[strD (gtxS (s.drop (runT s j).2.1)).1,rdD ((runT s j).2.1+(gtxS (s.drop (runT s j).2.1)).2.1) (gtxS (s.drop (runT s j).2.1)).2.2]]:=by rw [itT,if_neg (by simpa using hj0)]
  have hrn:runT s (j+1)=if (gtxS (s.drop (runT s j).2.1)).2.2≠0 then ((runT s j).1,(runT s j).2.1,(gtxS (s.drop (runT s j).2.1)).2.2) else ((runT s j).1++[(gtxS (s.drop (runT s j).2.1)).1],(runT s j).2.1+(gtxS (s.drop (runT s j).2.1)).2.1,0):=by rw [runT,if_neg (by simpa using hj0)]
  have hst:=fun h=>(kd6 (s:=s) (k:=j+1) h (n-(j+1))).2
  rw [show j+1+(n-(j+1))=n by omega] at hst
  have kt:=vc5 (s.drop (runT s j).2.1) (by rw [List.length_drop];omega)
  have htu:=kk1 (s.drop (runT s j).2.1)
  rw [List.length_drop] at htu
  generalize gtxS (s.drop (runT s j).2.1)=r at *
  generalize (runT s j).2.1=a at *
  obtain ⟨t,u,e⟩:=r
  have kt:PC (ja9 Tryz.prog) 121 [strD (s.drop a)] (.tup (.cons (strD t) (.cons (iD (u:Int)) (.cons (iD e) .nil)))):=kt
  simp only at htu hit hrn
  rw [hit] at hpre
  (repeat refine ja0 ?_);refine ja6 ?_
  (repeat refine ja0 ?_);refine ja8 ?_
  have hX:=And.intro je8 (and_true)
  have hK:=And.intro (kt) trivial;(repeat refine ja0 ?_);refine rgx [0,2,4,5,6,7,8,9] ?_
  (repeat refine ja0 ?_);refine rgx [0,2,4,5,7,8,9] ?_
  (repeat refine ja0 ?_);refine ke9 ?_;refine jk8 5 ?_;intro w0 A S0 f0;simp only [List.take,List.drop];(repeat ((with_reducible show DR _ _ _ (_::_) _);first|(refine cx _ (envG _ _ _ _ _ _) rfl rfl rfl rfl rfl ?_ (hc:=by first|exact kt))  | (refine sx ?_)));refine ja1 ?_
  refine kg8 rfl rfl (fun _ _ _ _=>rfl) (fun _ _ _ _=>by exact dz12) rfl ?_ ?_ ?_
  ·exact hpre
  ·by_cases he:e=0
   ·have d1:decide (e=0)=true:=decide_eq_true he
    rw [if_neg (by simpa using he)] at hrn
    have hX:=And.intro d1 (And.intro Bool.not_true (Bool.not_false))
    refine jk8 5 ?_;intro w0 A S0 f0;simp only [List.take,List.drop];(repeat (first|(refine gtx rfl rfl ?_)|(refine gx ?_)|((with_reducible show DR _ _ _ (_::_) _);first|(refine cx _ (envG _ _ _ _ _ _) rfl rfl rfl rfl rfl ?_ (hc:=by first|exact kt))  | (refine sx ?_))));refine ja1 ?_;refine js6 [0,2,4,8,9,32] (kl1 ?_)
    (repeat refine ja0 ?_);refine iffx ?_
    (repeat refine ja0 ?_);refine ja6 ?_
    have e1:((j:Int)+1) % 18446744073709551616=((j+1:Nat):Int):=by omega
    have hX:=And.intro je8 (e1)
    (repeat refine ja0 ?_);refine rgx [0,2,4,8,9] ?_
    exact ⟨_,m-1,WeakX.refl _,by omega,j+1,by omega,by rw [hrn],congrArg (·,true) hit.symm,by rw [hrn];first|rfl|simp [iD,qD]⟩
   ·have d1:decide (e=0)=false:=decide_eq_false he
    rw [if_pos he] at hrn
    have hX:=And.intro d1 (And.intro Bool.not_true (Bool.not_false))
    refine jk8 5 ?_;intro w0 A S0 f0;simp only [List.take,List.drop];(repeat (first|(refine gtx rfl rfl ?_)|(refine gx ?_)|((with_reducible show DR _ _ _ (_::_) _);first|(refine cx _ (envG _ _ _ _ _ _) rfl rfl rfl rfl rfl ?_ (hc:=by first|exact kt))  | (refine sx ?_))));refine ja1 ?_;refine js6 [0,2,4,8,9,32] (kl1 ?_)
    (repeat refine ja0 ?_);refine iftx ?_
    refine ja5 ?_
    exact ⟨.inr rfl,fun _=>hit.symm.trans (hst (by rw [hrn];exact he)).symm⟩
  ·skip
   have hX:=And.intro Bool.not_true (Bool.not_false)
   refine jk8 5 ?_;intro w0 A S0 f0;simp only [List.take,List.drop];(repeat (first|(refine gtx rfl rfl ?_)|(refine gx ?_)|((with_reducible show DR _ _ _ (_::_) _);first|(refine cx _ (envG _ _ _ _ _ _) rfl rfl rfl rfl rfl ?_ (hc:=by first|exact kt))  | (refine sx ?_))));refine ja1 ?_;refine js6 [0,2,4,8,9,32] (kl1 ?_)
   (repeat refine ja0 ?_);refine iftx ?_
   refine ja5 ?_
   exact ⟨.inr rfl,fun h=>by cases h⟩
 ·intro hc;(try simp only [hcs,ne_eq] at hc)
  obtain rfl:j=n:=by omega
  (repeat refine ja0 ?_);refine jd3 ?_
  exact ⟨.inl rfl,fun _=>rfl⟩
end Go.Proofs.YtmlbhiicmpgjiaaGreatDoor
