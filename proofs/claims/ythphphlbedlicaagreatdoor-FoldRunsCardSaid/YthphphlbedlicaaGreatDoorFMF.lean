/- Identifiers: a user's, a room's server; the document's. -/
import Derived.Test.YthphphlbedlicaaGreatDoorFPD
import Derived.Test.YthphphlbedlicaaGreatDoorFMC
set_option linter.unusedSimpArgs false
set_option linter.unusedVariables false
set_option maxRecDepth 10000
namespace Go.Proofs.YthphphlbedlicaaGreatDoor
open Go.RowKit
def srv (k:Nat) (t:List UInt8):Int×Bool:=if (idP t).2=0∧(idP t).1.k=k then ((idP t).1.sv,true) else (0,false)
def osD (r:Int×Bool):D:=.tup (.cons (iD r.1) (.cons (bD r.2) .nil))
set_option maxHeartbeats 8000000 in
theorem of_c (t:List UInt8) (k:Nat) (hs:t.length≤140737488351232):PC (ja0 Tryz.prog) 65 [strD t,.v (.int .u8 (k:Int))] (osD (srv k t)):=by
 have kp:=qw0 t hs
 unfold srv
 generalize idP t=R at *
 obtain ⟨⟨a,b,c⟩,e⟩:=R
 have kp:PC (ja0 Tryz.prog) 97 [strD t] (.tup (.cons (.cons (.v (.int .u8 (a:Int))) (.cons (.v (.string (B b))) (.cons (.v (.int .i64 c)) .nil))) (.cons (.v (.int .i64 e)) .nil))):=kp
 by_cases he:e=0
 ·by_cases hk:a=k
  ·subst hk
   have d1:decide (e=0)=true:=decide_eq_true he
   rw [if_pos ⟨he,rfl⟩]
   have hX:=and_true;refine pcx Tryz.func65 rfl Tryz.ntmps65 Tryz.results65 rfl ?_;intro w0 A
   have hX:=And.intro d1 (and_true)
   have hK:=And.intro (kp) trivial;refine rgx [0,1] ?_
   refine rgx [1,6,7] ?_
   refine rggx [6,20] ?_
   refine iffs ?_
   refine rgx [4,5] ?_
   exact retF
  ·have d1:decide (e=0)=true:=decide_eq_true he
   have d2:decide ((a:Int)=(k:Int))=false:=decide_eq_false (by omega)
   rw [if_neg fun h=>hk h.2]
   have hX:=and_true;refine pcx Tryz.func65 rfl Tryz.ntmps65 Tryz.results65 rfl ?_;intro w0 A
   have hX:=And.intro d1 (d2)
   have hK:=And.intro (kp) trivial;refine rgx [0,1] ?_
   refine rgx [1,6,7] ?_
   refine rggx [6,20] ?_
   refine iftx ?_
   refine rgx [4,5] ?_
   exact retF
 ·have d1:decide (e=0)=false:=decide_eq_false he
  rw [if_neg fun h=>he h.1]
  have hX:=and_true;refine pcx Tryz.func65 rfl Tryz.ntmps65 Tryz.results65 rfl ?_;intro w0 A
  have hX:=And.intro d1 (and_true)
  have hK:=And.intro (kp) trivial;refine rgx [0,1] ?_
  refine rgx [1,6,7] ?_
  refine rggx [6,20] ?_
  refine iftx ?_
  refine rgx [4,5] ?_
  exact retF
theorem ju8 (t:List UInt8) (hs:t.length≤140737488351232):PC (ja0 Tryz.prog) 31 [strD t] (osD (srv 1 t)):=by
 have kp:=of_c t 1 hs
 generalize srv 1 t=R at *
 obtain ⟨a,b⟩:=R
 have kp:PC (ja0 Tryz.prog) 65 [strD t,.v (.int .u8 1)] (.tup (.cons (.v (.int .i64 a)) (.cons (.v (.bool b)) .nil))):=kp
 have hX:=and_true;refine pcx Tryz.func31 rfl Tryz.ntmps31 Tryz.results31 rfl ?_;intro w0 A
 have hX:=And.intro and_true (and_true)
 have hK:=And.intro (kp) trivial;refine rgx [0] ?_
 refine rgx [2,3] ?_
 exact retF
theorem kw3 (t:List UInt8) (hs:t.length≤140737488351232):PC (ja0 Tryz.prog) 48 [strD t] (osD (srv 2 t)):=by
 have kp:=of_c t 2 hs
 generalize srv 2 t=R at *
 obtain ⟨a,b⟩:=R
 have kp:PC (ja0 Tryz.prog) 65 [strD t,.v (.int .u8 2)] (.tup (.cons (.v (.int .i64 a)) (.cons (.v (.bool b)) .nil))):=kp
 have hX:=and_true;refine pcx Tryz.func48 rfl Tryz.ntmps48 Tryz.results48 rfl ?_;intro w0 A
 have hX:=And.intro and_true (and_true)
 have hK:=And.intro (kp) trivial;refine rgx [0] ?_
 refine rgx [2,3] ?_
 exact retF
set_option maxHeartbeats 16000000 in
theorem kh8 (t:List UInt8) (hs:t.length≤140737488351232):PC (ja0 Tryz.prog) 62 [strD t] (ipD (idP t)):=by
 have hX:=and_true;refine pcx Tryz.func62 rfl Tryz.ntmps62 Tryz.results62 rfl ?_;intro w0 A
 refine rgx [0,2] ?_
 refine rgx [0,2,4] ?_
 (repeat refine ja2 ?_);refine jb2 ?_
 (repeat refine ja2 ?_)
 refine jc4 (fun m _ st=>∃k,t.length+1=k+m∧k≤ixN 58 (t.drop 1)+1∧1≤k∧st=mk [(0,strD t),(2,.ptr 0 0),(4,iD (k:Int))] [some (.one (.cons (.v (.int .u8 0)) (.cons (.v (.string (B []))) (.cons (.v (.int .i64 0)) .nil))))]) t.length ⟨_,WeakX.refl _,1,by omega,by omega,by omega,rfl⟩ ?_
 rintro m _ _ ⟨k,hk,hx,h1,rfl⟩
 have hX:=And.intro and_true (and_true)
 refine rgx [0,2,4,13] ?_
 refine ifx ?_ ?_
 ·intro hc;(try simp only [hcs,ne_eq] at hc)
  have hkn:k<t.length:=by omega
  have ha:(t.drop 1).getD (k-1) 0=t.getD k 0:=by
   rw [List.getD_eq_getElem?_getD,List.getElem?_drop,← List.getD_eq_getElem?_getD,show 1+(k-1)=k by omega]
  have hkl:k-1<(t.drop 1).length:=by rw [List.length_drop];omega
  by_cases hd:t.getD k 0=58
  ·have hix:=qo3 (c:=58) (s:=t.drop 1) (j:=k-1) (by omega) hkl (by rw [ha,hd])
   have hcl:ixN 58 (t.drop 1)<(t.drop 1).length:=by omega
   rw [← vh7 hcl]
   have htl:t.drop (k+1)=tlT t:=by
    unfold tlT
    rw [hix,List.drop_drop]
    congr 1
    omega
   have hhd:(t.take k).drop 1=hdT t:=by
    unfold hdT
    rw [hix,List.drop_take]
   have kc:=jy6 (tlT t) 63 (by decide) (by unfold tlT;simp;omega)
   have hnl:(hdT t).length≤4611686018427387904:=by unfold hdT;simp;omega
   have d58:decide (((t.getD k 0).toNat:Int)=58)=true:=decide_eq_true (by rw [hd];rfl)
   have f1:(k:Int)+1=((k+1:Nat):Int):=rfl
   unfold refR
   generalize numO 63 (tlT t)=q at *
   obtain ⟨n,b⟩:=q
   have kc:PC (ja0 Tryz.prog) 63 [strD (tlT t),.v (.int .i64 63)] (.tup (.cons (.v (.int .i64 (n:Int))) (.cons (.v (.bool b)) .nil))):=kc
   have kt:∀a:Nat,PC (ja0 Tryz.prog) 92 [.cons (.v (.int .u8 (a:Int))) (.cons (.v (.string (B (hdT t)))) (.cons (.v (.int .i64 (n:Int))) .nil))] (.tup (.cons (.v (.string (B (txtR ⟨a,hdT t,(n:Int)⟩).1))) (.cons (.v (.int .i64 (txtR ⟨a,hdT t,(n:Int)⟩).2)) .nil))):=fun a=>rx_c ⟨a,hdT t,(n:Int)⟩ hnl
   by_cases h33:t.getD 0 0=33
   ·have d33:decide (((t.getD 0 0).toNat:Int)=33)=true:=decide_eq_true (by rw [h33];rfl)
    rw [show kR t=2 from if_pos h33]
    have kt:=kt 2
    cases b
    ·rw [if_neg fun h2=>Bool.false_ne_true h2.1]
     generalize txtR ⟨2,hdT t,(n:Int)⟩=R at *
     obtain ⟨S,w⟩:=R
     have hX:=And.intro d58 (And.intro f1 (And.intro htl (And.intro hhd (d33))))
     refine ja6 ?_
     have hK:=And.intro (kc) (And.intro (kt) trivial);refine rgx [0,2,4,19] ?_
     refine iffs ?_
     refine rgx [0,2,4,5,6] ?_
     refine rgx [0,2,6,7] ?_
     refine rgx [0,2,6,7,35] ?_
     refine iftx ?_
     refine rgx [0,2,6,7] ?_
     refine rgx [0,2,6,7,8,9] ?_
     refine rggx [2,7,52] ?_
     refine iftx ?_
     refine rgx [2,3] ?_
     exact retF
    ·cases hok:okI ⟨2,hdT t,(n:Int)⟩
     ·rw [jj1 hok] at kt
      rw [if_neg fun h2=>absurd h2.2.1 (by decide)]
      have hX:=And.intro d58 (And.intro f1 (And.intro htl (And.intro hhd (d33))))
      refine ja6 ?_
      have hK:=And.intro (kc) (And.intro (kt) trivial);refine rgx [0,2,4,19] ?_
      refine iffs ?_
      refine rgx [0,2,4,5,6] ?_
      refine rgx [0,2,6,7] ?_
      refine rgx [0,2,6,7,35] ?_
      refine iftx ?_
      refine rgx [0,2,6,7] ?_
      refine rgx [0,2,6,7,8,9] ?_
      refine rggx [2,7,52] ?_
      refine iftx ?_
      refine rgx [2,3] ?_
      exact retF
     ·rw [ju7 hok] at kt
      generalize txtI ⟨2,hdT t,(n:Int)⟩=S at *
      have hX:=And.intro d58 (And.intro f1 (And.intro htl (And.intro hhd (d33))))
      refine ja6 ?_
      have hK:=And.intro (kc) (And.intro (kt) trivial);refine rgx [0,2,4,19] ?_
      refine iffs ?_
      refine rgx [0,2,4,5,6] ?_
      refine rgx [0,2,6,7] ?_
      refine rgx [0,2,6,7,35] ?_
      refine iftx ?_
      refine rgx [0,2,6,7] ?_
      refine rgx [0,2,6,7,8,9] ?_
      refine rggx [2,7,52] ?_
      refine ifx ?_ ?_
      ·intro hc
       rw [if_neg fun h2=>jg6 hc h2.2.2]
       refine rgx [2,3] ?_
       exact retF
      ·intro hc
       rw [if_pos ⟨rfl,rfl,jg2 hc⟩]
       refine ja6 ?_
       refine rgx [2,3] ?_
       exact retF
   ·have d33:decide (((t.getD 0 0).toNat:Int)=33)=false:=decide_eq_false (by
     intro h
     refine h33 (UInt8.toNat_inj.1 ?_)
     have:((t.getD 0 0).toNat:Int)=((33:UInt8).toNat:Int):=h
     omega)
    rw [show kR t=1 from if_neg h33]
    have kt:=kt 1
    cases b
    ·rw [if_neg fun h2=>Bool.false_ne_true h2.1]
     generalize txtR ⟨1,hdT t,(n:Int)⟩=R at *
     obtain ⟨S,w⟩:=R
     have hX:=And.intro d58 (And.intro f1 (And.intro htl (And.intro hhd (d33))))
     refine ja6 ?_
     have hK:=And.intro (kc) (And.intro (kt) trivial);refine rgx [0,2,4,19] ?_
     refine iffs ?_
     refine rgx [0,2,4,5,6] ?_
     refine rgx [0,2,6,7] ?_
     refine rgx [0,2,6,7,35] ?_
     refine iffs ?_
     refine rgx [0,2,6,7,8,9] ?_
     refine rggx [2,7,52] ?_
     refine iftx ?_
     refine rgx [2,3] ?_
     exact retF
    ·cases hok:okI ⟨1,hdT t,(n:Int)⟩
     ·rw [jj1 hok] at kt
      rw [if_neg fun h2=>absurd h2.2.1 (by decide)]
      have hX:=And.intro d58 (And.intro f1 (And.intro htl (And.intro hhd (d33))))
      refine ja6 ?_
      have hK:=And.intro (kc) (And.intro (kt) trivial);refine rgx [0,2,4,19] ?_
      refine iffs ?_
      refine rgx [0,2,4,5,6] ?_
      refine rgx [0,2,6,7] ?_
      refine rgx [0,2,6,7,35] ?_
      refine iffs ?_
      refine rgx [0,2,6,7,8,9] ?_
      refine rggx [2,7,52] ?_
      refine iftx ?_
      refine rgx [2,3] ?_
      exact retF
     ·rw [ju7 hok] at kt
      generalize txtI ⟨1,hdT t,(n:Int)⟩=S at *
      have hX:=And.intro d58 (And.intro f1 (And.intro htl (And.intro hhd (d33))))
      refine ja6 ?_
      have hK:=And.intro (kc) (And.intro (kt) trivial);refine rgx [0,2,4,19] ?_
      refine iffs ?_
      refine rgx [0,2,4,5,6] ?_
      refine rgx [0,2,6,7] ?_
      refine rgx [0,2,6,7,35] ?_
      refine iffs ?_
      refine rgx [0,2,6,7,8,9] ?_
      refine rggx [2,7,52] ?_
      refine ifx ?_ ?_
      ·intro hc
       rw [if_neg fun h2=>jg6 hc h2.2.2]
       refine rgx [2,3] ?_
       exact retF
      ·intro hc
       rw [if_pos ⟨rfl,rfl,jg2 hc⟩]
       refine ja6 ?_
       refine rgx [2,3] ?_
       exact retF
  ·have d1:decide (((t.getD k 0).toNat:Int)=58)=false:=decide_eq_false (by
    intro h
    refine hd (UInt8.toNat_inj.1 ?_)
    have:((t.getD k 0).toNat:Int)=((58:UInt8).toNat:Int):=h
    omega)
   have hup:=qo5 (c:=58) (s:=t.drop 1) (j:=k-1) (by omega) hkl (by rw [ha];exact hd)
   have hX:=And.intro d1 (and_true)
   refine ja6 ?_
   refine rgx [0,2,4,19] ?_
   refine iftx ?_
   refine jc8 ?_
   refine rgx [0,2,4] ?_
   exact ⟨_,m-1,WeakX.refl _,by omega,k+1,by omega,by omega,by omega,rfl⟩
 ·intro hc;(try simp only [hcs,ne_eq] at hc)
  rw [qo1 (by rw [List.length_drop];omega)]
  have hX:=And.intro and_true (and_true)
  refine jc8 ?_
  refine rgx [2,3] ?_
  exact retF
set_option maxHeartbeats 8000000 in
theorem jl6 (t:List UInt8) (hs:t.length≤140737488351232):PC (ja0 Tryz.prog) 34 [strD t] (osD (srv 1 t)):=by
 have kp:=kh8 t hs
 unfold srv
 generalize idP t=R at *
 obtain ⟨⟨a,b,c⟩,e⟩:=R
 have kp:PC (ja0 Tryz.prog) 62 [strD t] (.tup (.cons (.cons (.v (.int .u8 (a:Int))) (.cons (.v (.string (B b))) (.cons (.v (.int .i64 c)) .nil))) (.cons (.v (.int .i64 e)) .nil))):=kp
 by_cases he:e=0
 ·have d1:decide (e=0)=true:=decide_eq_true he
  by_cases hk:a=1
  ·have d2:decide ((a:Int)=1)=true:=decide_eq_true (by omega)
   rw [if_pos ⟨he,hk⟩]
   have hX:=and_true;refine pcx Tryz.func34 rfl Tryz.ntmps34 Tryz.results34 rfl ?_;intro w0 A
   have hX:=And.intro d1 (d2)
   have hK:=And.intro (kp) trivial;refine rgx [0] ?_
   refine rgx [4,5] ?_
   refine rggx [4,17] ?_
   refine iffs ?_
   refine rgx [2,3] ?_
   exact retF
  ·have d2:decide ((a:Int)=1)=false:=decide_eq_false (by omega)
   rw [if_neg fun h=>hk h.2]
   have hX:=and_true;refine pcx Tryz.func34 rfl Tryz.ntmps34 Tryz.results34 rfl ?_;intro w0 A
   have hX:=And.intro d1 (d2)
   have hK:=And.intro (kp) trivial;refine rgx [0] ?_
   refine rgx [4,5] ?_
   refine rggx [4,17] ?_
   refine iftx ?_
   refine rgx [2,3] ?_
   exact retF
 ·have d1:decide (e=0)=false:=decide_eq_false he
  rw [if_neg fun h=>he h.1]
  have hX:=and_true;refine pcx Tryz.func34 rfl Tryz.ntmps34 Tryz.results34 rfl ?_;intro w0 A
  have hX:=And.intro d1 (and_true)
  have hK:=And.intro (kp) trivial;refine rgx [0] ?_
  refine rgx [4,5] ?_
  refine rggx [4,17] ?_
  refine iftx ?_
  refine rgx [2,3] ?_
  exact retF
set_option maxHeartbeats 8000000 in
theorem jz8 (t:List UInt8) (hs:t.length≤140737488351232):PC (ja0 Tryz.prog) 26 [strD t] (osD (srv 2 t)):=by
 have kp:=kh8 t hs
 unfold srv
 generalize idP t=R at *
 obtain ⟨⟨a,b,c⟩,e⟩:=R
 have kp:PC (ja0 Tryz.prog) 62 [strD t] (.tup (.cons (.cons (.v (.int .u8 (a:Int))) (.cons (.v (.string (B b))) (.cons (.v (.int .i64 c)) .nil))) (.cons (.v (.int .i64 e)) .nil))):=kp
 by_cases he:e=0
 ·have d1:decide (e=0)=true:=decide_eq_true he
  by_cases hk:a=2
  ·have d2:decide ((a:Int)=2)=true:=decide_eq_true (by omega)
   rw [if_pos ⟨he,hk⟩]
   have hX:=and_true;refine pcx Tryz.func26 rfl Tryz.ntmps26 Tryz.results26 rfl ?_;intro w0 A
   have hX:=And.intro d1 (d2)
   have hK:=And.intro (kp) trivial;refine rgx [0] ?_
   refine rgx [4,5] ?_
   refine rggx [4,17] ?_
   refine iffs ?_
   refine rgx [2,3] ?_
   exact retF
  ·have d2:decide ((a:Int)=2)=false:=decide_eq_false (by omega)
   rw [if_neg fun h=>hk h.2]
   have hX:=and_true;refine pcx Tryz.func26 rfl Tryz.ntmps26 Tryz.results26 rfl ?_;intro w0 A
   have hX:=And.intro d1 (d2)
   have hK:=And.intro (kp) trivial;refine rgx [0] ?_
   refine rgx [4,5] ?_
   refine rggx [4,17] ?_
   refine iftx ?_
   refine rgx [2,3] ?_
   exact retF
 ·have d1:decide (e=0)=false:=decide_eq_false he
  rw [if_neg fun h=>he h.1]
  have hX:=and_true;refine pcx Tryz.func26 rfl Tryz.ntmps26 Tryz.results26 rfl ?_;intro w0 A
  have hX:=And.intro d1 (and_true)
  have hK:=And.intro (kp) trivial;refine rgx [0] ?_
  refine rgx [4,5] ?_
  refine rggx [4,17] ?_
  refine iftx ?_
  refine rgx [2,3] ?_
  exact retF
end Go.Proofs.YthphphlbedlicaaGreatDoor
