/- Scripts: the document's guess at a line's words. (Written by gen_yb.py.) -/
import Derived.Test.YtlhdeplkmghniaaDoorSPD
import Derived.Test.YtlhdeplkmghniaaDoorSYA
import Derived.Test.YtlhdeplkmghniaaDoorSJU
set_option linter.unusedSimpArgs false
set_option linter.unusedVariables false
set_option maxRecDepth 10000
namespace Go.Proofs.YtlhdeplkmghniaaDoor
open Go.RowKit
theorem qy4 {V:List (List UInt8)}{i:Nat} (h:V.length≤i):tAt V i=[]:=by
 unfold tAt
 rw [List.getD_eq_getElem?_getD,List.getElem?_eq_none h,Option.getD_none]
 rfl
theorem qv5 {V:List (List UInt8)}{i:Nat} (h:V.length≤i):(nAt V i).1=0:=by
 unfold nAt
 rw [List.getD_eq_getElem?_getD,List.getElem?_eq_none h,Option.getD_none,qe5 (km4 _)]
def nK (V:List (List UInt8)) (k:Nat):Nat→Int:=fun j=>if j<k then ((nAt V j).1:Int) else 0
def tK (V:List (List UInt8)) (k j:Nat):List UInt8:=if j<k then tAt V j else []
theorem km2 {V:List (List UInt8)}{k:Nat} (h:V.length≤k) (j:Nat):nK V k j=((nAt V j).1:Int):=by
 unfold nK
 split
 ·rfl
 ·rw [qv5 (by omega)];rfl
theorem ko2 {V:List (List UInt8)}{k:Nat} (h:V.length≤k) (j:Nat):tK V k j=tAt V j:=by
 unfold tK
 split
 ·rfl
 ·rw [qy4 (by omega)]
theorem jr0 (V:List (List UInt8)) (k:Nat):updI (nK V k) k ((nAt V k).1:Int)=nK V (k+1):=by
 funext j
 unfold updI nK
 by_cases h:j=k
 ·subst h;rw [if_pos rfl,if_pos (by omega)]
 ·rw [if_neg h]
  by_cases h2:j<k
  ·rw [if_pos h2,if_pos (by omega)]
  ·rw [if_neg h2,if_neg (by omega)]
theorem kt4 (w:List UInt8):kdO w≤10:=by
 by_cases h:kdO w=0
 ·omega
 ·exact (je8 h).2.2
theorem jm5 (r:Nat×Bool):cuD r = .tup (.cons (.v (.int .i64 (r.1:Int))) (.cons (.v (.bool r.2)) .nil)):=rfl
def tsD (V:List (List UInt8)) (k:Nat):D:=.cons (strD (tK V k 0)) (.cons (strD (tK V k 1)) (.cons (strD (tK V k 2)) (.cons (strD (tK V k 3)) .nil)))
set_option maxHeartbeats 32000000 in
theorem qu5 (W:List (List UInt8)) (hne:W≠[]) (hl:∀i,(W.getD i []).length≤4398046511104) (hL:W.length≤4398046511105):PC (ja4 Tryd.prog) 44 [.sl W [] strD] (ddD (gsK (kdO (W.headD [])) W.tail)):=by
 obtain ⟨w,V,rfl⟩:∃w V,W=w::V:=by cases W with|nil=>exact absurd rfl hne|cons w V=>exact ⟨w,V,rfl⟩
 show PC _ _ _ (ddD (gsK (kdO w) V))
 have hlV:∀i,(V.getD i []).length≤4398046511104:=fun i=>by have:=hl (i+1);simpa using this
 have kc:=fun i=>kf3 (V.getD i []) mT (by decide) (Nat.le_trans (hlV i) (by decide))
 have kh:=fun i=>qg0 (V.getD i []) (Nat.le_trans (hlV i) (by decide))
 have hLc:(w::V).length=V.length+1:=rfl
 rw [hLc] at hL
 have hg:∀i,(w::V).getD (i+1) []=V.getD i []:=fun i=>by simp
 have hg0:(w::V).getD 0 []=w:=rfl
 generalize hW:w::V=W at *
 have hX:=and_true;refine pcx Tryd.func44 rfl Tryd.ntmps44 Tryd.results44 rfl ?_;intro w0 A
 have hX:=And.intro and_true (and_true)
 refine rgx [0,2] ?_
 refine rgx [0,2,3] ?_
 refine rgx [0,2,3,4] ?_
 refine rgx [0,2,3,4,5] ?_
 (repeat refine ja7 ?_);refine jd1 ?_
 (repeat refine ja7 ?_)
 refine jf6 (fun m _ st=>∃(k:Nat) (z:Int),z=(k:Int)∧k+m=4∧k≤V.length∧st=mk [(0,.sl W [] strD),(2,.ptr 0 0),(3,.ptr 1 0),(4,.ptr 2 0),(5,.v (.int .i64 z))] [some (.one (ddD ddz)),some (.one (.arr .i64 4 (nK V k))),some (.one (tsD V k))]) 4 ⟨_,WeakX.refl _,0,0,rfl,rfl,Nat.zero_le _,rfl⟩ ?_
 rintro m _ _ ⟨k,z,hz,hk,hkV,rfl⟩
 have hlen:(W.length:Int)=(V.length:Int)+1:=by omega
 by_cases hend:k=4∨V.length≤k
 ·have fin:V.length≤k∨k=4:=hend.symm
  have n0:nK V k 0=((nAt V 0).1:Int):=by rcases fin with h|h;exact km2 h 0;(subst h;rfl)
  have t0:tK V k 0=tAt V 0:=by rcases fin with h|h;exact ko2 h 0;(subst h;rfl)
  have m0:(nAt V 0).1≤mT:=jf2 mT (V.getD 0 [])
  have n1:nK V k 1=((nAt V 1).1:Int):=by rcases fin with h|h;exact km2 h 1;(subst h;rfl)
  have t1:tK V k 1=tAt V 1:=by rcases fin with h|h;exact ko2 h 1;(subst h;rfl)
  have m1:(nAt V 1).1≤mT:=jf2 mT (V.getD 1 [])
  have n2:nK V k 2=((nAt V 2).1:Int):=by rcases fin with h|h;exact km2 h 2;(subst h;rfl)
  have t2:tK V k 2=tAt V 2:=by rcases fin with h|h;exact ko2 h 2;(subst h;rfl)
  have m2:(nAt V 2).1≤mT:=jf2 mT (V.getD 2 [])
  unfold tsD
  rw [t0,t1,t2]
  generalize nK V k=f at *
  generalize tK V k 3=t3 at *
  unfold mT at m0 m1 m2
  have b2:(((nAt V 2).1:Nat):Int) % 256=(((nAt V 2).1 % 256:Nat):Int):=by omega
  have kno:∀j,1≤j→j≤10→kdO w≠j→¬w=wdk j:=fun j h1 h2 h3 e=>h3 (by rw [e];exact kd6 j h2 h1)
  have kle:=kt4 w
  by_cases h4:k<4
  ·have d4:decide (z<4)=true:=decide_eq_true (by omega)
   have d5:decide (z+1<(W.length:Int))=false:=decide_eq_false (by omega)
   have hX:=And.intro d4 (d5)
   refine rggx [0,2,3,4,5,16] ?_
   refine iffx ?_
   refine jg5 ?_
   match hkk:kdO w,kle with
   | 0,_ =>
    have w1:=dzF (a:=w) (b:=[99,108,105,101,110,116]) (kno 1 (by decide) (by decide) (by omega))
    have w2:=dzF (a:=w) (b:=[116,105,99,107]) (kno 2 (by decide) (by decide) (by omega))
    have w3:=dzF (a:=w) (b:=[103,111,115,115,105,112]) (kno 3 (by decide) (by decide) (by omega))
    have w4:=dzF (a:=w) (b:=[104,101,97,100]) (kno 4 (by decide) (by decide) (by omega))
    have w5:=dzF (a:=w) (b:=[102,97,105,108]) (kno 5 (by decide) (by decide) (by omega))
    have w6:=dzF (a:=w) (b:=[100,101,108,105,118,101,114]) (kno 6 (by decide) (by decide) (by omega))
    have w7:=dzF (a:=w) (b:=[100,114,111,112]) (kno 7 (by decide) (by decide) (by omega))
    have w8:=dzF (a:=w) (b:=[100,111,117,98,108,101]) (kno 8 (by decide) (by decide) (by omega))
    have w9:=dzF (a:=w) (b:=[105,110,106,101,99,116]) (kno 9 (by decide) (by decide) (by omega))
    have w10:=dzF (a:=w) (b:=[102,111,114,103,101]) (kno 10 (by decide) (by decide) (by omega))
    have hX:=And.intro hg0 (And.intro n0 (And.intro n1 (And.intro n2 (And.intro b2 (And.intro w1 (And.intro w2 (And.intro w3 (And.intro w4 (And.intro w5 (And.intro w6 (And.intro w7 (And.intro w8 (And.intro w9 (w10))))))))))))))
    refine rqx [0,2,3,4,6,7] ?_
    refine rgx [2,3,4,6,7,51] ?_
    refine rgx [2,3,4,6,7,51,52] ?_
    refine iffx ?_
    refine rgx [2,3,4,6,7,51,58] ?_
    refine iffx ?_
    refine rgx [2,3,4,6,7,51,62] ?_
    refine iffx ?_
    refine rgx [2,3,4,6,7,51,66] ?_
    refine iffx ?_
    refine rgx [2,3,4,6,7,51,70] ?_
    refine iffx ?_
    refine rgx [2,4,6,7,51,78] ?_
    refine iffx ?_
    refine rgx [2,4,6,7,51,82] ?_
    refine iffx ?_
    refine rgx [2,4,6,7,51,86] ?_
    refine iffx ?_
    refine rgx [2,4,6,7,51,90] ?_
    refine iffx ?_
    refine rgx [2,4,6,7,95] ?_
    refine iffs ?_
    refine rgx [2] ?_
    exact retF
   | 1,_ =>
    have hwk:w=wdk 1:=by have:=(je8 (w:=w) (by omega)).1;rw [hkk] at this;exact this
    have w1:=dzT (a:=w) (b:=[99,108,105,101,110,116]) hwk
    have hX:=And.intro hg0 (And.intro n0 (And.intro n1 (And.intro n2 (And.intro b2 (w1)))))
    refine rqx [0,2,3,4,6,7] ?_
    refine rgx [2,3,4,6,7,51] ?_
    refine rgx [2,3,4,6,7,51,52] ?_
    refine iftx ?_
    refine rgx [2] ?_
    exact retF
   | 2,_ =>
    have hwk:w=wdk 2:=by have:=(je8 (w:=w) (by omega)).1;rw [hkk] at this;exact this
    have w1:=dzF (a:=w) (b:=[99,108,105,101,110,116]) (by rw [hwk];decide)
    have w2:=dzT (a:=w) (b:=[116,105,99,107]) hwk
    have hX:=And.intro hg0 (And.intro n0 (And.intro n1 (And.intro n2 (And.intro b2 (And.intro w1 (w2))))))
    refine rqx [0,2,3,4,6,7] ?_
    refine rgx [2,3,4,6,7,51] ?_
    refine rgx [2,3,4,6,7,51,52] ?_
    refine iffx ?_
    refine rgx [2,3,4,6,7,51,58] ?_
    refine iftx ?_
    refine rgx [2] ?_
    exact retF
   | 3,_ =>
    have hwk:w=wdk 3:=by have:=(je8 (w:=w) (by omega)).1;rw [hkk] at this;exact this
    have w1:=dzF (a:=w) (b:=[99,108,105,101,110,116]) (by rw [hwk];decide)
    have w2:=dzF (a:=w) (b:=[116,105,99,107]) (by rw [hwk];decide)
    have w3:=dzT (a:=w) (b:=[103,111,115,115,105,112]) hwk
    have hX:=And.intro hg0 (And.intro n0 (And.intro n1 (And.intro n2 (And.intro b2 (And.intro w1 (And.intro w2 (w3)))))))
    refine rqx [0,2,3,4,6,7] ?_
    refine rgx [2,3,4,6,7,51] ?_
    refine rgx [2,3,4,6,7,51,52] ?_
    refine iffx ?_
    refine rgx [2,3,4,6,7,51,58] ?_
    refine iffx ?_
    refine rgx [2,3,4,6,7,51,62] ?_
    refine iftx ?_
    refine rgx [2] ?_
    exact retF
   | 4,_ =>
    have hwk:w=wdk 4:=by have:=(je8 (w:=w) (by omega)).1;rw [hkk] at this;exact this
    have w1:=dzF (a:=w) (b:=[99,108,105,101,110,116]) (by rw [hwk];decide)
    have w2:=dzF (a:=w) (b:=[116,105,99,107]) (by rw [hwk];decide)
    have w3:=dzF (a:=w) (b:=[103,111,115,115,105,112]) (by rw [hwk];decide)
    have w4:=dzT (a:=w) (b:=[104,101,97,100]) hwk
    have hX:=And.intro hg0 (And.intro n0 (And.intro n1 (And.intro n2 (And.intro b2 (And.intro w1 (And.intro w2 (And.intro w3 (w4))))))))
    refine rqx [0,2,3,4,6,7] ?_
    refine rgx [2,3,4,6,7,51] ?_
    refine rgx [2,3,4,6,7,51,52] ?_
    refine iffx ?_
    refine rgx [2,3,4,6,7,51,58] ?_
    refine iffx ?_
    refine rgx [2,3,4,6,7,51,62] ?_
    refine iffx ?_
    refine rgx [2,3,4,6,7,51,66] ?_
    refine iftx ?_
    refine rgx [2] ?_
    exact retF
   | 5,_ =>
    have hwk:w=wdk 5:=by have:=(je8 (w:=w) (by omega)).1;rw [hkk] at this;exact this
    have w1:=dzF (a:=w) (b:=[99,108,105,101,110,116]) (by rw [hwk];decide)
    have w2:=dzF (a:=w) (b:=[116,105,99,107]) (by rw [hwk];decide)
    have w3:=dzF (a:=w) (b:=[103,111,115,115,105,112]) (by rw [hwk];decide)
    have w4:=dzF (a:=w) (b:=[104,101,97,100]) (by rw [hwk];decide)
    have w5:=dzT (a:=w) (b:=[102,97,105,108]) hwk
    have hX:=And.intro hg0 (And.intro n0 (And.intro n1 (And.intro n2 (And.intro b2 (And.intro w1 (And.intro w2 (And.intro w3 (And.intro w4 (w5)))))))))
    refine rqx [0,2,3,4,6,7] ?_
    refine rgx [2,3,4,6,7,51] ?_
    refine rgx [2,3,4,6,7,51,52] ?_
    refine iffx ?_
    refine rgx [2,3,4,6,7,51,58] ?_
    refine iffx ?_
    refine rgx [2,3,4,6,7,51,62] ?_
    refine iffx ?_
    refine rgx [2,3,4,6,7,51,66] ?_
    refine iffx ?_
    refine rgx [2,3,4,6,7,51,70] ?_
    refine iftx ?_
    refine rgx [2] ?_
    exact retF
   | 6,_ =>
    have hwk:w=wdk 6:=by have:=(je8 (w:=w) (by omega)).1;rw [hkk] at this;exact this
    have w1:=dzF (a:=w) (b:=[99,108,105,101,110,116]) (by rw [hwk];decide)
    have w2:=dzF (a:=w) (b:=[116,105,99,107]) (by rw [hwk];decide)
    have w3:=dzF (a:=w) (b:=[103,111,115,115,105,112]) (by rw [hwk];decide)
    have w4:=dzF (a:=w) (b:=[104,101,97,100]) (by rw [hwk];decide)
    have w5:=dzF (a:=w) (b:=[102,97,105,108]) (by rw [hwk];decide)
    have w6:=dzT (a:=w) (b:=[100,101,108,105,118,101,114]) hwk
    have hX:=And.intro hg0 (And.intro n0 (And.intro n1 (And.intro n2 (And.intro b2 (And.intro w1 (And.intro w2 (And.intro w3 (And.intro w4 (And.intro w5 (w6))))))))))
    refine rqx [0,2,3,4,6,7] ?_
    refine rgx [2,3,4,6,7,51] ?_
    refine rgx [2,3,4,6,7,51,52] ?_
    refine iffx ?_
    refine rgx [2,3,4,6,7,51,58] ?_
    refine iffx ?_
    refine rgx [2,3,4,6,7,51,62] ?_
    refine iffx ?_
    refine rgx [2,3,4,6,7,51,66] ?_
    refine iffx ?_
    refine rgx [2,3,4,6,7,51,70] ?_
    refine iffx ?_
    refine rgx [2,4,6,7,51,78] ?_
    refine iftx ?_
    refine rgx [2] ?_
    exact retF
   | 7,_ =>
    have hwk:w=wdk 7:=by have:=(je8 (w:=w) (by omega)).1;rw [hkk] at this;exact this
    have w1:=dzF (a:=w) (b:=[99,108,105,101,110,116]) (by rw [hwk];decide)
    have w2:=dzF (a:=w) (b:=[116,105,99,107]) (by rw [hwk];decide)
    have w3:=dzF (a:=w) (b:=[103,111,115,115,105,112]) (by rw [hwk];decide)
    have w4:=dzF (a:=w) (b:=[104,101,97,100]) (by rw [hwk];decide)
    have w5:=dzF (a:=w) (b:=[102,97,105,108]) (by rw [hwk];decide)
    have w6:=dzF (a:=w) (b:=[100,101,108,105,118,101,114]) (by rw [hwk];decide)
    have w7:=dzT (a:=w) (b:=[100,114,111,112]) hwk
    have hX:=And.intro hg0 (And.intro n0 (And.intro n1 (And.intro n2 (And.intro b2 (And.intro w1 (And.intro w2 (And.intro w3 (And.intro w4 (And.intro w5 (And.intro w6 (w7)))))))))))
    refine rqx [0,2,3,4,6,7] ?_
    refine rgx [2,3,4,6,7,51] ?_
    refine rgx [2,3,4,6,7,51,52] ?_
    refine iffx ?_
    refine rgx [2,3,4,6,7,51,58] ?_
    refine iffx ?_
    refine rgx [2,3,4,6,7,51,62] ?_
    refine iffx ?_
    refine rgx [2,3,4,6,7,51,66] ?_
    refine iffx ?_
    refine rgx [2,3,4,6,7,51,70] ?_
    refine iffx ?_
    refine rgx [2,4,6,7,51,78] ?_
    refine iffx ?_
    refine rgx [2,4,6,7,51,82] ?_
    refine iftx ?_
    refine rgx [2] ?_
    exact retF
   | 8,_ =>
    have hwk:w=wdk 8:=by have:=(je8 (w:=w) (by omega)).1;rw [hkk] at this;exact this
    have w1:=dzF (a:=w) (b:=[99,108,105,101,110,116]) (by rw [hwk];decide)
    have w2:=dzF (a:=w) (b:=[116,105,99,107]) (by rw [hwk];decide)
    have w3:=dzF (a:=w) (b:=[103,111,115,115,105,112]) (by rw [hwk];decide)
    have w4:=dzF (a:=w) (b:=[104,101,97,100]) (by rw [hwk];decide)
    have w5:=dzF (a:=w) (b:=[102,97,105,108]) (by rw [hwk];decide)
    have w6:=dzF (a:=w) (b:=[100,101,108,105,118,101,114]) (by rw [hwk];decide)
    have w7:=dzF (a:=w) (b:=[100,114,111,112]) (by rw [hwk];decide)
    have w8:=dzT (a:=w) (b:=[100,111,117,98,108,101]) hwk
    have hX:=And.intro hg0 (And.intro n0 (And.intro n1 (And.intro n2 (And.intro b2 (And.intro w1 (And.intro w2 (And.intro w3 (And.intro w4 (And.intro w5 (And.intro w6 (And.intro w7 (w8))))))))))))
    refine rqx [0,2,3,4,6,7] ?_
    refine rgx [2,3,4,6,7,51] ?_
    refine rgx [2,3,4,6,7,51,52] ?_
    refine iffx ?_
    refine rgx [2,3,4,6,7,51,58] ?_
    refine iffx ?_
    refine rgx [2,3,4,6,7,51,62] ?_
    refine iffx ?_
    refine rgx [2,3,4,6,7,51,66] ?_
    refine iffx ?_
    refine rgx [2,3,4,6,7,51,70] ?_
    refine iffx ?_
    refine rgx [2,4,6,7,51,78] ?_
    refine iffx ?_
    refine rgx [2,4,6,7,51,82] ?_
    refine iffx ?_
    refine rgx [2,4,6,7,51,86] ?_
    refine iftx ?_
    refine rgx [2] ?_
    exact retF
   | 9,_ =>
    have hwk:w=wdk 9:=by have:=(je8 (w:=w) (by omega)).1;rw [hkk] at this;exact this
    have w1:=dzF (a:=w) (b:=[99,108,105,101,110,116]) (by rw [hwk];decide)
    have w2:=dzF (a:=w) (b:=[116,105,99,107]) (by rw [hwk];decide)
    have w3:=dzF (a:=w) (b:=[103,111,115,115,105,112]) (by rw [hwk];decide)
    have w4:=dzF (a:=w) (b:=[104,101,97,100]) (by rw [hwk];decide)
    have w5:=dzF (a:=w) (b:=[102,97,105,108]) (by rw [hwk];decide)
    have w6:=dzF (a:=w) (b:=[100,101,108,105,118,101,114]) (by rw [hwk];decide)
    have w7:=dzF (a:=w) (b:=[100,114,111,112]) (by rw [hwk];decide)
    have w8:=dzF (a:=w) (b:=[100,111,117,98,108,101]) (by rw [hwk];decide)
    have w9:=dzT (a:=w) (b:=[105,110,106,101,99,116]) hwk
    have hX:=And.intro hg0 (And.intro n0 (And.intro n1 (And.intro n2 (And.intro b2 (And.intro w1 (And.intro w2 (And.intro w3 (And.intro w4 (And.intro w5 (And.intro w6 (And.intro w7 (And.intro w8 (w9)))))))))))))
    refine rqx [0,2,3,4,6,7] ?_
    refine rgx [2,3,4,6,7,51] ?_
    refine rgx [2,3,4,6,7,51,52] ?_
    refine iffx ?_
    refine rgx [2,3,4,6,7,51,58] ?_
    refine iffx ?_
    refine rgx [2,3,4,6,7,51,62] ?_
    refine iffx ?_
    refine rgx [2,3,4,6,7,51,66] ?_
    refine iffx ?_
    refine rgx [2,3,4,6,7,51,70] ?_
    refine iffx ?_
    refine rgx [2,4,6,7,51,78] ?_
    refine iffx ?_
    refine rgx [2,4,6,7,51,82] ?_
    refine iffx ?_
    refine rgx [2,4,6,7,51,86] ?_
    refine iffx ?_
    refine rgx [2,4,6,7,51,90] ?_
    refine iftx ?_
    refine rgx [2] ?_
    exact retF
   | 10,_ =>
    have hwk:w=wdk 10:=by have:=(je8 (w:=w) (by omega)).1;rw [hkk] at this;exact this
    have w1:=dzF (a:=w) (b:=[99,108,105,101,110,116]) (by rw [hwk];decide)
    have w2:=dzF (a:=w) (b:=[116,105,99,107]) (by rw [hwk];decide)
    have w3:=dzF (a:=w) (b:=[103,111,115,115,105,112]) (by rw [hwk];decide)
    have w4:=dzF (a:=w) (b:=[104,101,97,100]) (by rw [hwk];decide)
    have w5:=dzF (a:=w) (b:=[102,97,105,108]) (by rw [hwk];decide)
    have w6:=dzF (a:=w) (b:=[100,101,108,105,118,101,114]) (by rw [hwk];decide)
    have w7:=dzF (a:=w) (b:=[100,114,111,112]) (by rw [hwk];decide)
    have w8:=dzF (a:=w) (b:=[100,111,117,98,108,101]) (by rw [hwk];decide)
    have w9:=dzF (a:=w) (b:=[105,110,106,101,99,116]) (by rw [hwk];decide)
    have w10:=dzT (a:=w) (b:=[102,111,114,103,101]) hwk
    have hX:=And.intro hg0 (And.intro n0 (And.intro n1 (And.intro n2 (And.intro b2 (And.intro w1 (And.intro w2 (And.intro w3 (And.intro w4 (And.intro w5 (And.intro w6 (And.intro w7 (And.intro w8 (And.intro w9 (w10))))))))))))))
    refine rqx [0,2,3,4,6,7] ?_
    refine rgx [2,3,4,6,7,51] ?_
    refine rgx [2,3,4,6,7,51,52] ?_
    refine iffx ?_
    refine rgx [2,3,4,6,7,51,58] ?_
    refine iffx ?_
    refine rgx [2,3,4,6,7,51,62] ?_
    refine iffx ?_
    refine rgx [2,3,4,6,7,51,66] ?_
    refine iffx ?_
    refine rgx [2,3,4,6,7,51,70] ?_
    refine iffx ?_
    refine rgx [2,4,6,7,51,78] ?_
    refine iffx ?_
    refine rgx [2,4,6,7,51,82] ?_
    refine iffx ?_
    refine rgx [2,4,6,7,51,86] ?_
    refine iffx ?_
    refine rgx [2,4,6,7,51,90] ?_
    refine iffx ?_
    refine rgx [2,4,6,7,95] ?_
    refine iftx ?_
    refine rgx [2] ?_
    exact retF
  ·have d4:decide (z<4)=false:=decide_eq_false (by omega)
   have hX:=And.intro d4 (and_true)
   refine rggx [0,2,3,4,5,16] ?_
   refine iffx ?_
   refine jg5 ?_
   match hkk:kdO w,kle with
   | 0,_ =>
    have w1:=dzF (a:=w) (b:=[99,108,105,101,110,116]) (kno 1 (by decide) (by decide) (by omega))
    have w2:=dzF (a:=w) (b:=[116,105,99,107]) (kno 2 (by decide) (by decide) (by omega))
    have w3:=dzF (a:=w) (b:=[103,111,115,115,105,112]) (kno 3 (by decide) (by decide) (by omega))
    have w4:=dzF (a:=w) (b:=[104,101,97,100]) (kno 4 (by decide) (by decide) (by omega))
    have w5:=dzF (a:=w) (b:=[102,97,105,108]) (kno 5 (by decide) (by decide) (by omega))
    have w6:=dzF (a:=w) (b:=[100,101,108,105,118,101,114]) (kno 6 (by decide) (by decide) (by omega))
    have w7:=dzF (a:=w) (b:=[100,114,111,112]) (kno 7 (by decide) (by decide) (by omega))
    have w8:=dzF (a:=w) (b:=[100,111,117,98,108,101]) (kno 8 (by decide) (by decide) (by omega))
    have w9:=dzF (a:=w) (b:=[105,110,106,101,99,116]) (kno 9 (by decide) (by decide) (by omega))
    have w10:=dzF (a:=w) (b:=[102,111,114,103,101]) (kno 10 (by decide) (by decide) (by omega))
    have hX:=And.intro hg0 (And.intro n0 (And.intro n1 (And.intro n2 (And.intro b2 (And.intro w1 (And.intro w2 (And.intro w3 (And.intro w4 (And.intro w5 (And.intro w6 (And.intro w7 (And.intro w8 (And.intro w9 (w10))))))))))))))
    refine rqx [0,2,3,4,6,7] ?_
    refine rgx [2,3,4,6,7,51] ?_
    refine rgx [2,3,4,6,7,51,52] ?_
    refine iffx ?_
    refine rgx [2,3,4,6,7,51,58] ?_
    refine iffx ?_
    refine rgx [2,3,4,6,7,51,62] ?_
    refine iffx ?_
    refine rgx [2,3,4,6,7,51,66] ?_
    refine iffx ?_
    refine rgx [2,3,4,6,7,51,70] ?_
    refine iffx ?_
    refine rgx [2,4,6,7,51,78] ?_
    refine iffx ?_
    refine rgx [2,4,6,7,51,82] ?_
    refine iffx ?_
    refine rgx [2,4,6,7,51,86] ?_
    refine iffx ?_
    refine rgx [2,4,6,7,51,90] ?_
    refine iffx ?_
    refine rgx [2,4,6,7,95] ?_
    refine iffs ?_
    refine rgx [2] ?_
    exact retF
   | 1,_ =>
    have hwk:w=wdk 1:=by have:=(je8 (w:=w) (by omega)).1;rw [hkk] at this;exact this
    have w1:=dzT (a:=w) (b:=[99,108,105,101,110,116]) hwk
    have hX:=And.intro hg0 (And.intro n0 (And.intro n1 (And.intro n2 (And.intro b2 (w1)))))
    refine rqx [0,2,3,4,6,7] ?_
    refine rgx [2,3,4,6,7,51] ?_
    refine rgx [2,3,4,6,7,51,52] ?_
    refine iftx ?_
    refine rgx [2] ?_
    exact retF
   | 2,_ =>
    have hwk:w=wdk 2:=by have:=(je8 (w:=w) (by omega)).1;rw [hkk] at this;exact this
    have w1:=dzF (a:=w) (b:=[99,108,105,101,110,116]) (by rw [hwk];decide)
    have w2:=dzT (a:=w) (b:=[116,105,99,107]) hwk
    have hX:=And.intro hg0 (And.intro n0 (And.intro n1 (And.intro n2 (And.intro b2 (And.intro w1 (w2))))))
    refine rqx [0,2,3,4,6,7] ?_
    refine rgx [2,3,4,6,7,51] ?_
    refine rgx [2,3,4,6,7,51,52] ?_
    refine iffx ?_
    refine rgx [2,3,4,6,7,51,58] ?_
    refine iftx ?_
    refine rgx [2] ?_
    exact retF
   | 3,_ =>
    have hwk:w=wdk 3:=by have:=(je8 (w:=w) (by omega)).1;rw [hkk] at this;exact this
    have w1:=dzF (a:=w) (b:=[99,108,105,101,110,116]) (by rw [hwk];decide)
    have w2:=dzF (a:=w) (b:=[116,105,99,107]) (by rw [hwk];decide)
    have w3:=dzT (a:=w) (b:=[103,111,115,115,105,112]) hwk
    have hX:=And.intro hg0 (And.intro n0 (And.intro n1 (And.intro n2 (And.intro b2 (And.intro w1 (And.intro w2 (w3)))))))
    refine rqx [0,2,3,4,6,7] ?_
    refine rgx [2,3,4,6,7,51] ?_
    refine rgx [2,3,4,6,7,51,52] ?_
    refine iffx ?_
    refine rgx [2,3,4,6,7,51,58] ?_
    refine iffx ?_
    refine rgx [2,3,4,6,7,51,62] ?_
    refine iftx ?_
    refine rgx [2] ?_
    exact retF
   | 4,_ =>
    have hwk:w=wdk 4:=by have:=(je8 (w:=w) (by omega)).1;rw [hkk] at this;exact this
    have w1:=dzF (a:=w) (b:=[99,108,105,101,110,116]) (by rw [hwk];decide)
    have w2:=dzF (a:=w) (b:=[116,105,99,107]) (by rw [hwk];decide)
    have w3:=dzF (a:=w) (b:=[103,111,115,115,105,112]) (by rw [hwk];decide)
    have w4:=dzT (a:=w) (b:=[104,101,97,100]) hwk
    have hX:=And.intro hg0 (And.intro n0 (And.intro n1 (And.intro n2 (And.intro b2 (And.intro w1 (And.intro w2 (And.intro w3 (w4))))))))
    refine rqx [0,2,3,4,6,7] ?_
    refine rgx [2,3,4,6,7,51] ?_
    refine rgx [2,3,4,6,7,51,52] ?_
    refine iffx ?_
    refine rgx [2,3,4,6,7,51,58] ?_
    refine iffx ?_
    refine rgx [2,3,4,6,7,51,62] ?_
    refine iffx ?_
    refine rgx [2,3,4,6,7,51,66] ?_
    refine iftx ?_
    refine rgx [2] ?_
    exact retF
   | 5,_ =>
    have hwk:w=wdk 5:=by have:=(je8 (w:=w) (by omega)).1;rw [hkk] at this;exact this
    have w1:=dzF (a:=w) (b:=[99,108,105,101,110,116]) (by rw [hwk];decide)
    have w2:=dzF (a:=w) (b:=[116,105,99,107]) (by rw [hwk];decide)
    have w3:=dzF (a:=w) (b:=[103,111,115,115,105,112]) (by rw [hwk];decide)
    have w4:=dzF (a:=w) (b:=[104,101,97,100]) (by rw [hwk];decide)
    have w5:=dzT (a:=w) (b:=[102,97,105,108]) hwk
    have hX:=And.intro hg0 (And.intro n0 (And.intro n1 (And.intro n2 (And.intro b2 (And.intro w1 (And.intro w2 (And.intro w3 (And.intro w4 (w5)))))))))
    refine rqx [0,2,3,4,6,7] ?_
    refine rgx [2,3,4,6,7,51] ?_
    refine rgx [2,3,4,6,7,51,52] ?_
    refine iffx ?_
    refine rgx [2,3,4,6,7,51,58] ?_
    refine iffx ?_
    refine rgx [2,3,4,6,7,51,62] ?_
    refine iffx ?_
    refine rgx [2,3,4,6,7,51,66] ?_
    refine iffx ?_
    refine rgx [2,3,4,6,7,51,70] ?_
    refine iftx ?_
    refine rgx [2] ?_
    exact retF
   | 6,_ =>
    have hwk:w=wdk 6:=by have:=(je8 (w:=w) (by omega)).1;rw [hkk] at this;exact this
    have w1:=dzF (a:=w) (b:=[99,108,105,101,110,116]) (by rw [hwk];decide)
    have w2:=dzF (a:=w) (b:=[116,105,99,107]) (by rw [hwk];decide)
    have w3:=dzF (a:=w) (b:=[103,111,115,115,105,112]) (by rw [hwk];decide)
    have w4:=dzF (a:=w) (b:=[104,101,97,100]) (by rw [hwk];decide)
    have w5:=dzF (a:=w) (b:=[102,97,105,108]) (by rw [hwk];decide)
    have w6:=dzT (a:=w) (b:=[100,101,108,105,118,101,114]) hwk
    have hX:=And.intro hg0 (And.intro n0 (And.intro n1 (And.intro n2 (And.intro b2 (And.intro w1 (And.intro w2 (And.intro w3 (And.intro w4 (And.intro w5 (w6))))))))))
    refine rqx [0,2,3,4,6,7] ?_
    refine rgx [2,3,4,6,7,51] ?_
    refine rgx [2,3,4,6,7,51,52] ?_
    refine iffx ?_
    refine rgx [2,3,4,6,7,51,58] ?_
    refine iffx ?_
    refine rgx [2,3,4,6,7,51,62] ?_
    refine iffx ?_
    refine rgx [2,3,4,6,7,51,66] ?_
    refine iffx ?_
    refine rgx [2,3,4,6,7,51,70] ?_
    refine iffx ?_
    refine rgx [2,4,6,7,51,78] ?_
    refine iftx ?_
    refine rgx [2] ?_
    exact retF
   | 7,_ =>
    have hwk:w=wdk 7:=by have:=(je8 (w:=w) (by omega)).1;rw [hkk] at this;exact this
    have w1:=dzF (a:=w) (b:=[99,108,105,101,110,116]) (by rw [hwk];decide)
    have w2:=dzF (a:=w) (b:=[116,105,99,107]) (by rw [hwk];decide)
    have w3:=dzF (a:=w) (b:=[103,111,115,115,105,112]) (by rw [hwk];decide)
    have w4:=dzF (a:=w) (b:=[104,101,97,100]) (by rw [hwk];decide)
    have w5:=dzF (a:=w) (b:=[102,97,105,108]) (by rw [hwk];decide)
    have w6:=dzF (a:=w) (b:=[100,101,108,105,118,101,114]) (by rw [hwk];decide)
    have w7:=dzT (a:=w) (b:=[100,114,111,112]) hwk
    have hX:=And.intro hg0 (And.intro n0 (And.intro n1 (And.intro n2 (And.intro b2 (And.intro w1 (And.intro w2 (And.intro w3 (And.intro w4 (And.intro w5 (And.intro w6 (w7)))))))))))
    refine rqx [0,2,3,4,6,7] ?_
    refine rgx [2,3,4,6,7,51] ?_
    refine rgx [2,3,4,6,7,51,52] ?_
    refine iffx ?_
    refine rgx [2,3,4,6,7,51,58] ?_
    refine iffx ?_
    refine rgx [2,3,4,6,7,51,62] ?_
    refine iffx ?_
    refine rgx [2,3,4,6,7,51,66] ?_
    refine iffx ?_
    refine rgx [2,3,4,6,7,51,70] ?_
    refine iffx ?_
    refine rgx [2,4,6,7,51,78] ?_
    refine iffx ?_
    refine rgx [2,4,6,7,51,82] ?_
    refine iftx ?_
    refine rgx [2] ?_
    exact retF
   | 8,_ =>
    have hwk:w=wdk 8:=by have:=(je8 (w:=w) (by omega)).1;rw [hkk] at this;exact this
    have w1:=dzF (a:=w) (b:=[99,108,105,101,110,116]) (by rw [hwk];decide)
    have w2:=dzF (a:=w) (b:=[116,105,99,107]) (by rw [hwk];decide)
    have w3:=dzF (a:=w) (b:=[103,111,115,115,105,112]) (by rw [hwk];decide)
    have w4:=dzF (a:=w) (b:=[104,101,97,100]) (by rw [hwk];decide)
    have w5:=dzF (a:=w) (b:=[102,97,105,108]) (by rw [hwk];decide)
    have w6:=dzF (a:=w) (b:=[100,101,108,105,118,101,114]) (by rw [hwk];decide)
    have w7:=dzF (a:=w) (b:=[100,114,111,112]) (by rw [hwk];decide)
    have w8:=dzT (a:=w) (b:=[100,111,117,98,108,101]) hwk
    have hX:=And.intro hg0 (And.intro n0 (And.intro n1 (And.intro n2 (And.intro b2 (And.intro w1 (And.intro w2 (And.intro w3 (And.intro w4 (And.intro w5 (And.intro w6 (And.intro w7 (w8))))))))))))
    refine rqx [0,2,3,4,6,7] ?_
    refine rgx [2,3,4,6,7,51] ?_
    refine rgx [2,3,4,6,7,51,52] ?_
    refine iffx ?_
    refine rgx [2,3,4,6,7,51,58] ?_
    refine iffx ?_
    refine rgx [2,3,4,6,7,51,62] ?_
    refine iffx ?_
    refine rgx [2,3,4,6,7,51,66] ?_
    refine iffx ?_
    refine rgx [2,3,4,6,7,51,70] ?_
    refine iffx ?_
    refine rgx [2,4,6,7,51,78] ?_
    refine iffx ?_
    refine rgx [2,4,6,7,51,82] ?_
    refine iffx ?_
    refine rgx [2,4,6,7,51,86] ?_
    refine iftx ?_
    refine rgx [2] ?_
    exact retF
   | 9,_ =>
    have hwk:w=wdk 9:=by have:=(je8 (w:=w) (by omega)).1;rw [hkk] at this;exact this
    have w1:=dzF (a:=w) (b:=[99,108,105,101,110,116]) (by rw [hwk];decide)
    have w2:=dzF (a:=w) (b:=[116,105,99,107]) (by rw [hwk];decide)
    have w3:=dzF (a:=w) (b:=[103,111,115,115,105,112]) (by rw [hwk];decide)
    have w4:=dzF (a:=w) (b:=[104,101,97,100]) (by rw [hwk];decide)
    have w5:=dzF (a:=w) (b:=[102,97,105,108]) (by rw [hwk];decide)
    have w6:=dzF (a:=w) (b:=[100,101,108,105,118,101,114]) (by rw [hwk];decide)
    have w7:=dzF (a:=w) (b:=[100,114,111,112]) (by rw [hwk];decide)
    have w8:=dzF (a:=w) (b:=[100,111,117,98,108,101]) (by rw [hwk];decide)
    have w9:=dzT (a:=w) (b:=[105,110,106,101,99,116]) hwk
    have hX:=And.intro hg0 (And.intro n0 (And.intro n1 (And.intro n2 (And.intro b2 (And.intro w1 (And.intro w2 (And.intro w3 (And.intro w4 (And.intro w5 (And.intro w6 (And.intro w7 (And.intro w8 (w9)))))))))))))
    refine rqx [0,2,3,4,6,7] ?_
    refine rgx [2,3,4,6,7,51] ?_
    refine rgx [2,3,4,6,7,51,52] ?_
    refine iffx ?_
    refine rgx [2,3,4,6,7,51,58] ?_
    refine iffx ?_
    refine rgx [2,3,4,6,7,51,62] ?_
    refine iffx ?_
    refine rgx [2,3,4,6,7,51,66] ?_
    refine iffx ?_
    refine rgx [2,3,4,6,7,51,70] ?_
    refine iffx ?_
    refine rgx [2,4,6,7,51,78] ?_
    refine iffx ?_
    refine rgx [2,4,6,7,51,82] ?_
    refine iffx ?_
    refine rgx [2,4,6,7,51,86] ?_
    refine iffx ?_
    refine rgx [2,4,6,7,51,90] ?_
    refine iftx ?_
    refine rgx [2] ?_
    exact retF
   | 10,_ =>
    have hwk:w=wdk 10:=by have:=(je8 (w:=w) (by omega)).1;rw [hkk] at this;exact this
    have w1:=dzF (a:=w) (b:=[99,108,105,101,110,116]) (by rw [hwk];decide)
    have w2:=dzF (a:=w) (b:=[116,105,99,107]) (by rw [hwk];decide)
    have w3:=dzF (a:=w) (b:=[103,111,115,115,105,112]) (by rw [hwk];decide)
    have w4:=dzF (a:=w) (b:=[104,101,97,100]) (by rw [hwk];decide)
    have w5:=dzF (a:=w) (b:=[102,97,105,108]) (by rw [hwk];decide)
    have w6:=dzF (a:=w) (b:=[100,101,108,105,118,101,114]) (by rw [hwk];decide)
    have w7:=dzF (a:=w) (b:=[100,114,111,112]) (by rw [hwk];decide)
    have w8:=dzF (a:=w) (b:=[100,111,117,98,108,101]) (by rw [hwk];decide)
    have w9:=dzF (a:=w) (b:=[105,110,106,101,99,116]) (by rw [hwk];decide)
    have w10:=dzT (a:=w) (b:=[102,111,114,103,101]) hwk
    have hX:=And.intro hg0 (And.intro n0 (And.intro n1 (And.intro n2 (And.intro b2 (And.intro w1 (And.intro w2 (And.intro w3 (And.intro w4 (And.intro w5 (And.intro w6 (And.intro w7 (And.intro w8 (And.intro w9 (w10))))))))))))))
    refine rqx [0,2,3,4,6,7] ?_
    refine rgx [2,3,4,6,7,51] ?_
    refine rgx [2,3,4,6,7,51,52] ?_
    refine iffx ?_
    refine rgx [2,3,4,6,7,51,58] ?_
    refine iffx ?_
    refine rgx [2,3,4,6,7,51,62] ?_
    refine iffx ?_
    refine rgx [2,3,4,6,7,51,66] ?_
    refine iffx ?_
    refine rgx [2,3,4,6,7,51,70] ?_
    refine iffx ?_
    refine rgx [2,4,6,7,51,78] ?_
    refine iffx ?_
    refine rgx [2,4,6,7,51,82] ?_
    refine iffx ?_
    refine rgx [2,4,6,7,51,86] ?_
    refine iffx ?_
    refine rgx [2,4,6,7,51,90] ?_
    refine iffx ?_
    refine rgx [2,4,6,7,95] ?_
    refine iftx ?_
    refine rgx [2] ?_
    exact retF
 have hk4:k<4:=by omega
 have hkl:k<V.length:=by omega
 have d5:decide (z+1<(W.length:Int))=true:=decide_eq_true (by omega)
 by_cases e0:k=0
 ·subst e0
  have hz:z=0:=by omega
  subst hz
  have kc0:=kc 0
  have kh0:=kh 0
  have g1:W.getD 1 []=V.getD 0 []:=hg 0
  have hup:=jr0 V 0
  have d6:decide ((1:Int)<(W.length:Int))=true:=d5
  have hu:nK V 1=updI (nK V 0) 0 ((numO mT (V.getD 0 [])).1:Int):=(jr0 V 0).symm
  have hT:tAt V 0=if (V.getD 0 []).length≤16384 then unE (V.getD 0 []) else []:=rfl
  have ht:tsD V 1 = .cons (strD (tAt V 0)) (.cons (strD []) (.cons (strD []) (.cons (strD []) .nil))):=rfl
  have ht0:tsD V 0 = .cons (strD []) (.cons (strD []) (.cons (strD []) (.cons (strD []) .nil))):=rfl
  rw [ht0]
  generalize nK V 0=f at *
  generalize numO mT (V.getD 0 [])=qn at *
  by_cases h16:(V.getD 0 []).length≤16384
  ·have d7:decide (((V.getD 0 []).length:Int)≤16384)=true:=decide_eq_true (by omega)
   rw [if_pos h16] at hT
   have hX:=And.intro jm5 (And.intro d6 (And.intro d7 (g1)))
   have hK:=And.intro (kc0) (And.intro (kh0) trivial);refine rggx [0,2,3,4,5,16] ?_
   refine ifts ?_
   refine rgx [0,2,3,4,5] ?_
   refine rgx [0,2,3,4,5,36] ?_
   refine iftx ?_
   refine rgx [0,2,3,4,5] ?_
   refine rgx [0,2,3,4,5] ?_
   refine ⟨_,3,WeakX.refl _,by omega,1,1,rfl,rfl,by omega,?_⟩
   rw [hu,ht,hT]
   rfl
  ·have d7:decide (((V.getD 0 []).length:Int)≤16384)=false:=decide_eq_false (by omega)
   rw [if_neg h16] at hT
   have hX:=And.intro jm5 (And.intro d6 (And.intro d7 (g1)))
   have hK:=And.intro (kc0) (And.intro (kh0) trivial);refine rggx [0,2,3,4,5,16] ?_
   refine ifts ?_
   refine rgx [0,2,3,4,5] ?_
   refine rgx [0,2,3,4,5,36] ?_
   refine iffs ?_
   refine rgx [0,2,3,4,5] ?_
   refine ⟨_,3,WeakX.refl _,by omega,1,1,rfl,rfl,by omega,?_⟩
   rw [hu,ht,hT]
   rfl
 by_cases e1:k=1
 ·subst e1
  have hz:z=1:=by omega
  subst hz
  have kc0:=kc 1
  have kh0:=kh 1
  have g1:W.getD 2 []=V.getD 1 []:=hg 1
  have hup:=jr0 V 1
  have d6:decide ((2:Int)<(W.length:Int))=true:=d5
  have hu:nK V 2=updI (nK V 1) 1 ((numO mT (V.getD 1 [])).1:Int):=(jr0 V 1).symm
  have hT:tAt V 1=if (V.getD 1 []).length≤16384 then unE (V.getD 1 []) else []:=rfl
  have ht:tsD V 2 = .cons (strD (tAt V 0)) (.cons (strD (tAt V 1)) (.cons (strD []) (.cons (strD []) .nil))):=rfl
  have ht0:tsD V 1 = .cons (strD (tAt V 0)) (.cons (strD []) (.cons (strD []) (.cons (strD []) .nil))):=rfl
  rw [ht0]
  generalize nK V 1=f at *
  generalize numO mT (V.getD 1 [])=qn at *
  by_cases h16:(V.getD 1 []).length≤16384
  ·have d7:decide (((V.getD 1 []).length:Int)≤16384)=true:=decide_eq_true (by omega)
   rw [if_pos h16] at hT
   have hX:=And.intro jm5 (And.intro d6 (And.intro d7 (g1)))
   have hK:=And.intro (kc0) (And.intro (kh0) trivial);refine rggx [0,2,3,4,5,16] ?_
   refine ifts ?_
   refine rgx [0,2,3,4,5] ?_
   refine rgx [0,2,3,4,5,36] ?_
   refine iftx ?_
   refine rgx [0,2,3,4,5] ?_
   refine rgx [0,2,3,4,5] ?_
   refine ⟨_,2,WeakX.refl _,by omega,2,2,rfl,rfl,by omega,?_⟩
   rw [hu,ht,hT]
   rfl
  ·have d7:decide (((V.getD 1 []).length:Int)≤16384)=false:=decide_eq_false (by omega)
   rw [if_neg h16] at hT
   have hX:=And.intro jm5 (And.intro d6 (And.intro d7 (g1)))
   have hK:=And.intro (kc0) (And.intro (kh0) trivial);refine rggx [0,2,3,4,5,16] ?_
   refine ifts ?_
   refine rgx [0,2,3,4,5] ?_
   refine rgx [0,2,3,4,5,36] ?_
   refine iffs ?_
   refine rgx [0,2,3,4,5] ?_
   refine ⟨_,2,WeakX.refl _,by omega,2,2,rfl,rfl,by omega,?_⟩
   rw [hu,ht,hT]
   rfl
 by_cases e2:k=2
 ·subst e2
  have hz:z=2:=by omega
  subst hz
  have kc0:=kc 2
  have kh0:=kh 2
  have g1:W.getD 3 []=V.getD 2 []:=hg 2
  have hup:=jr0 V 2
  have d6:decide ((3:Int)<(W.length:Int))=true:=d5
  have hu:nK V 3=updI (nK V 2) 2 ((numO mT (V.getD 2 [])).1:Int):=(jr0 V 2).symm
  have hT:tAt V 2=if (V.getD 2 []).length≤16384 then unE (V.getD 2 []) else []:=rfl
  have ht:tsD V 3 = .cons (strD (tAt V 0)) (.cons (strD (tAt V 1)) (.cons (strD (tAt V 2)) (.cons (strD []) .nil))):=rfl
  have ht0:tsD V 2 = .cons (strD (tAt V 0)) (.cons (strD (tAt V 1)) (.cons (strD []) (.cons (strD []) .nil))):=rfl
  rw [ht0]
  generalize nK V 2=f at *
  generalize numO mT (V.getD 2 [])=qn at *
  by_cases h16:(V.getD 2 []).length≤16384
  ·have d7:decide (((V.getD 2 []).length:Int)≤16384)=true:=decide_eq_true (by omega)
   rw [if_pos h16] at hT
   have hX:=And.intro jm5 (And.intro d6 (And.intro d7 (g1)))
   have hK:=And.intro (kc0) (And.intro (kh0) trivial);refine rggx [0,2,3,4,5,16] ?_
   refine ifts ?_
   refine rgx [0,2,3,4,5] ?_
   refine rgx [0,2,3,4,5,36] ?_
   refine iftx ?_
   refine rgx [0,2,3,4,5] ?_
   refine rgx [0,2,3,4,5] ?_
   refine ⟨_,1,WeakX.refl _,by omega,3,3,rfl,rfl,by omega,?_⟩
   rw [hu,ht,hT]
   rfl
  ·have d7:decide (((V.getD 2 []).length:Int)≤16384)=false:=decide_eq_false (by omega)
   rw [if_neg h16] at hT
   have hX:=And.intro jm5 (And.intro d6 (And.intro d7 (g1)))
   have hK:=And.intro (kc0) (And.intro (kh0) trivial);refine rggx [0,2,3,4,5,16] ?_
   refine ifts ?_
   refine rgx [0,2,3,4,5] ?_
   refine rgx [0,2,3,4,5,36] ?_
   refine iffs ?_
   refine rgx [0,2,3,4,5] ?_
   refine ⟨_,1,WeakX.refl _,by omega,3,3,rfl,rfl,by omega,?_⟩
   rw [hu,ht,hT]
   rfl
 by_cases e3:k=3
 ·subst e3
  have hz:z=3:=by omega
  subst hz
  have kc0:=kc 3
  have kh0:=kh 3
  have g1:W.getD 4 []=V.getD 3 []:=hg 3
  have hup:=jr0 V 3
  have d6:decide ((4:Int)<(W.length:Int))=true:=d5
  have hu:nK V 4=updI (nK V 3) 3 ((numO mT (V.getD 3 [])).1:Int):=(jr0 V 3).symm
  have hT:tAt V 3=if (V.getD 3 []).length≤16384 then unE (V.getD 3 []) else []:=rfl
  have ht:tsD V 4 = .cons (strD (tAt V 0)) (.cons (strD (tAt V 1)) (.cons (strD (tAt V 2)) (.cons (strD (tAt V 3)) .nil))):=rfl
  have ht0:tsD V 3 = .cons (strD (tAt V 0)) (.cons (strD (tAt V 1)) (.cons (strD (tAt V 2)) (.cons (strD []) .nil))):=rfl
  rw [ht0]
  generalize nK V 3=f at *
  generalize numO mT (V.getD 3 [])=qn at *
  by_cases h16:(V.getD 3 []).length≤16384
  ·have d7:decide (((V.getD 3 []).length:Int)≤16384)=true:=decide_eq_true (by omega)
   rw [if_pos h16] at hT
   have hX:=And.intro jm5 (And.intro d6 (And.intro d7 (g1)))
   have hK:=And.intro (kc0) (And.intro (kh0) trivial);refine rggx [0,2,3,4,5,16] ?_
   refine ifts ?_
   refine rgx [0,2,3,4,5] ?_
   refine rgx [0,2,3,4,5,36] ?_
   refine iftx ?_
   refine rgx [0,2,3,4,5] ?_
   refine rgx [0,2,3,4,5] ?_
   refine ⟨_,0,WeakX.refl _,by omega,4,4,rfl,rfl,by omega,?_⟩
   rw [hu,ht,hT]
   rfl
  ·have d7:decide (((V.getD 3 []).length:Int)≤16384)=false:=decide_eq_false (by omega)
   rw [if_neg h16] at hT
   have hX:=And.intro jm5 (And.intro d6 (And.intro d7 (g1)))
   have hK:=And.intro (kc0) (And.intro (kh0) trivial);refine rggx [0,2,3,4,5,16] ?_
   refine ifts ?_
   refine rgx [0,2,3,4,5] ?_
   refine rgx [0,2,3,4,5,36] ?_
   refine iffs ?_
   refine rgx [0,2,3,4,5] ?_
   refine ⟨_,0,WeakX.refl _,by omega,4,4,rfl,rfl,by omega,?_⟩
   rw [hu,ht,hT]
   rfl
 exact absurd hk4 (by omega)
end Go.Proofs.YtlhdeplkmghniaaDoor
