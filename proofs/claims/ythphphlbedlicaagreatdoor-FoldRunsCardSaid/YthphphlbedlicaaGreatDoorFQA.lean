/- Levels: plain; six numbers. Levels are right, or not. (Written by gen_pb.py.) Levels' text: plain; the program's. -/
import Derived.Test.YthphphlbedlicaaGreatDoorFPD
import Derived.Test.YthphphlbedlicaaGreatDoorFMF
import Derived.Test.YthphphlbedlicaaGreatDoorFPH
import Derived.Test.YthphphlbedlicaaGreatDoorFPA
import Derived.Test.YthphphlbedlicaaGreatDoorFPJ
set_option linter.unusedSimpArgs false
set_option linter.unusedVariables false
set_option maxRecDepth 10000
namespace Go.Proofs.YthphphlbedlicaaGreatDoor
open Go.RowKit
structure Us where
 u:List UInt8
 n:Int
def uz:Us:=⟨[],0⟩
def usD (x:Us):D:=.cons (strD x.u) (.cons (iD x.n) .nil)
theorem jb5 (x:Us):usD x = .cons (.v (.string (B x.u))) (.cons (.v (.int .i64 x.n)) .nil):=rfl
structure Lv where
 a:Int
 s:Int
 i:Int
 k:Int
 b:Int
 r:Int
 us:List Us
def lvD (x:Lv):D:=.cons (iD x.a) (.cons (iD x.s) (.cons (iD x.i) (.cons (iD x.k) (.cons (iD x.b) (.cons (iD x.r) (.cons (.sl x.us uz usD) .nil))))))
theorem jb1 (x:Lv):lvD x = .cons (.v (.int .i64 x.a)) (.cons (.v (.int .i64 x.s)) (.cons (.v (.int .i64 x.i)) (.cons (.v (.int .i64 x.k)) (.cons (.v (.int .i64 x.b)) (.cons (.v (.int .i64 x.r)) (.cons (.sl x.us uz usD) .nil)))))):=rfl
def lev (n:Int):Bool:=decide (0≤n∧n≤100)
def sixL (x:Lv):List Int:=[x.a,x.s,x.i,x.k,x.b,x.r]
theorem qd6 (n:Int):PC (ja0 Tryz.prog) 141 [iD n] (bD (lev n)):=by
 by_cases h:0≤n
 ·have d1:decide (0≤n)=true:=decide_eq_true h
  have hX:=and_true;refine pcx Tryz.func141 rfl Tryz.ntmps141 Tryz.results141 rfl ?_;intro w0 A
  have hX:=And.intro d1 (and_true)
  refine rgx [0] ?_
  refine rggx [2] ?_
  refine rX ?_;refine retx ?_;(try dsimp only [outV,ja5])
  exact jj9 (by unfold lev;rw [decide_eq_decide];omega)
 ·have d1:decide (0≤n)=false:=decide_eq_false h
  have hX:=and_true;refine pcx Tryz.func141 rfl Tryz.ntmps141 Tryz.results141 rfl ?_;intro w0 A
  have hX:=And.intro d1 (and_true)
  refine rgx [0] ?_
  refine rggx [2] ?_
  refine rX ?_;refine retx ?_;(try dsimp only [outV,ja5])
  exact jj9 (by unfold lev;exact (decide_eq_false (by omega)).symm)
theorem kh7 (n:Int):PC (ja0 Tryz.prog) 126 [iD n] (bD (lev n)):=by
 by_cases h:0≤n
 ·have d1:decide (0≤n)=true:=decide_eq_true h
  have hX:=and_true;refine pcx Tryz.func126 rfl Tryz.ntmps126 Tryz.results126 rfl ?_;intro w0 A
  have hX:=And.intro d1 (and_true)
  refine rgx [0] ?_
  refine rggx [2] ?_
  refine rX ?_;refine retx ?_;(try dsimp only [outV,ja5])
  exact jj9 (by unfold lev;rw [decide_eq_decide];omega)
 ·have d1:decide (0≤n)=false:=decide_eq_false h
  have hX:=and_true;refine pcx Tryz.func126 rfl Tryz.ntmps126 Tryz.results126 rfl ?_;intro w0 A
  have hX:=And.intro d1 (and_true)
  refine rgx [0] ?_
  refine rggx [2] ?_
  refine rX ?_;refine retx ?_;(try dsimp only [outV,ja5])
  exact jj9 (by unfold lev;exact (decide_eq_false (by omega)).symm)
theorem qj7 (x:Lv):PC (ja0 Tryz.prog) 140 [lvD x] (.arr .i64 6 (fun j=>(sixL x).getD j 0)):=by
 have hX:=and_true;refine pcx Tryz.func140 rfl Tryz.ntmps140 Tryz.results140 rfl ?_;intro w0 A
 have hX:=And.intro jb1 (and_true)
 refine rgx [1,2] ?_
 refine rgx [2] ?_
 refine rX ?_;refine retx ?_;(try dsimp only [outV,ja5])
 refine vc2 fun i hi=>?_
 rcases i with _|_|_|_|_|_|i
 ·rfl
 ·rfl
 ·rfl
 ·rfl
 ·rfl
 ·rfl
 ·omega
theorem qk0 (x:Lv):PC (ja0 Tryz.prog) 90 [lvD x] (.sl (sixL x) 0 iD):=by
 have hX:=and_true;refine pcx Tryz.func90 rfl Tryz.ntmps90 Tryz.results90 rfl ?_;intro w0 A
 have hX:=And.intro jb1 (and_true)
 refine rgx [1] ?_
 refine rgx [2] ?_
 refine rX ?_;refine retx ?_;(try dsimp only [outV,ja5])
 refine jv6 (jt0 rfl fun i hi=>?_)
 have hi:i<6:=hi
 rcases i with _|_|_|_|_|_|i
 ·rfl
 ·rfl
 ·rfl
 ·rfl
 ·rfl
 ·rfl
 ·omega
def okU (us:List Us) (i:Nat):Bool:=(srv 1 (us.getD i uz).u).2&&lev (us.getD i uz).n&&(decide (i=0)||Op.bytesLess (us.getD (i-1) uz).u (us.getD i uz).u)
def chkB (x:Lv):Bool:=(sixL x).all lev&&decide (x.us.length≤16)&&(List.range x.us.length).all (okU x.us)
def chkE (x:Lv):Int:=if chkB x then 0 else 2
theorem kk0 {x:Lv}{k:Nat} (hk:k<6) (h:lev ((sixL x).getD k 0)=false):chkE x=2:=by
 have h2:(sixL x).all lev=false:=by
  rw [List.all_eq_false]
  refine ⟨(sixL x).getD k 0,?_,by rw [h];decide⟩
  rw [List.getD_eq_getElem?_getD,List.getElem?_eq_getElem (show k<(sixL x).length from hk),Option.getD_some]
  exact List.getElem_mem _
 unfold chkE chkB
 rw [h2]
 rfl
theorem qa7 {x:Lv} (h:¬x.us.length≤16):chkE x=2:=by
 unfold chkE chkB
 rw [decide_eq_false h,Bool.and_false]
 rfl
theorem jm9 {x:Lv}{i:Nat} (hi:i<x.us.length) (h:okU x.us i=false):chkE x=2:=by
 have h2:(List.range x.us.length).all (okU x.us)=false:=by
  rw [List.all_eq_false]
  exact ⟨i,List.mem_range.2 hi,by rw [h];decide⟩
 unfold chkE chkB
 rw [h2,Bool.and_false]
 rfl
theorem kr8 {x:Lv} (h1:∀k,k<6→lev ((sixL x).getD k 0)=true) (h2:x.us.length≤16) (h3:∀i,i<x.us.length→okU x.us i=true):chkE x=0:=by
 have e1:(sixL x).all lev=true:=by
  rw [List.all_eq_true]
  intro y hy
  obtain ⟨k,hk,rfl⟩:=List.getElem_of_mem hy
  have:=h1 k hk
  rwa [List.getD_eq_getElem?_getD,List.getElem?_eq_getElem hk,Option.getD_some] at this
 have e3:(List.range x.us.length).all (okU x.us)=true:=by
  rw [List.all_eq_true]
  intro y hy
  exact h3 y (List.mem_range.1 hy)
 unfold chkE chkB
 rw [e1,e3,decide_eq_true h2]
 rfl
def usB (us:List Us):Prop:=∀i,(us.getD i uz).u.length≤140737488351232
set_option maxHeartbeats 16000000 in
theorem kv3 (x:Lv) (hu:usB x.us):PC (ja0 Tryz.prog) 112 [lvD x] (iD (chkE x)):=by
 have k6:=qj7 x
 have d6:((sixL x).length:Int)=6:=rfl
 have hX:=and_true;refine pcx Tryz.func112 rfl Tryz.ntmps112 Tryz.results112 rfl ?_;intro w0 A
 have hX:=And.intro jb1 (d6)
 have hK:=And.intro (k6) trivial;refine rgx [1] ?_
 refine rgx [1,10,11] ?_
 (repeat refine ja2 ?_);refine jb2 ?_
 (repeat refine ja2 ?_)
 refine jc4 (fun m _ st=>∃k,k+m=6∧(∀j,j<k→lev ((sixL x).getD j 0)=true)∧st=mk [(1,.ptr 0 0),(10,.arr .i64 6 (fun j=>(sixL x).getD j 0)),(11,iD (k:Int))] [some (.one (lvD x))]) 6 ⟨_,WeakX.refl _,0,rfl,fun j hj=>absurd hj (Nat.not_lt_zero _),rfl⟩ ?_
 rintro m _ _ ⟨k,hk,hI,rfl⟩
 have hX:=And.intro jb1 (jb5)
 refine rgx [1,10,11,12] ?_
 refine ifx ?_ ?_
 ·intro hc;(try simp only [hcs,ne_eq] at hc)
  have hkn:k<6:=by omega
  have kl:=qd6 ((sixL x).getD k 0)
  cases hl:lev ((sixL x).getD k 0)
  ·rw [hl] at kl
   rw [kk0 hkn hl]
   have hX:=And.intro jb1 (jb5)
   refine ja6 ?_
   have hK:=And.intro (kl) trivial;refine rgx [1,4,10,11] ?_
   refine rgx [1,10,11,16] ?_
   refine iftx ?_
   refine rgx [2] ?_
   exact retF
  ·rw [hl] at kl
   have hX:=And.intro jb1 (jb5)
   refine ja6 ?_
   have hK:=And.intro (kl) trivial;refine rgx [1,4,10,11] ?_
   refine rgx [1,10,11,16] ?_
   refine iffs ?_
   refine rgx [1,10,11] ?_
   exact ⟨_,m-1,WeakX.refl _,by omega,k+1,by omega,fun j hj=>(by rcases Nat.lt_succ_iff_lt_or_eq.1 hj with h|rfl;exact hI j h;exact hl),rfl⟩
 ·intro hc;(try simp only [hcs,ne_eq] at hc)
  obtain rfl:k=6:=by omega
  have h6:∀k,k<6→lev ((sixL x).getD k 0)=true:=hI
  clear hI
  by_cases hn:x.us.length≤16
  ·have d16:decide ((16:Int)<(x.us.length:Int))=false:=decide_eq_false (by omega)
   have hX:=And.intro jb1 (And.intro jb5 (d16))
   refine jc8 ?_
   refine rgx [1,21] ?_
   refine iffs ?_
   refine rgx [1,23,24,25] ?_
   (repeat refine ja2 ?_);refine jb2 ?_
   (repeat refine ja2 ?_)
   refine jc4 (fun m _ st=>∃k,k+m=x.us.length∧(∀j,j<k→okU x.us j=true)∧st=mk [(1,.ptr 0 0),(23,.sl x.us uz usD),(24,iD (x.us.length:Int)),(25,iD (k:Int))] [some (.one (lvD x))]) x.us.length ⟨_,WeakX.refl _,0,by omega,fun j hj=>absurd hj (Nat.not_lt_zero _),rfl⟩ ?_
   rintro m _ _ ⟨k,hk,hI,rfl⟩
   have hX:=And.intro jb1 (jb5)
   refine rgx [1,23,24,25,26] ?_
   refine ifx ?_ ?_
   ·intro hc;(try simp only [hcs,ne_eq] at hc)
    have hkn:k<x.us.length:=by omega
    have ku:=ju8 (x.us.getD k uz).u (hu k)
    have kl:=qd6 (x.us.getD k uz).n
    have hok:okU x.us k=((srv 1 (x.us.getD k uz).u).2&&lev (x.us.getD k uz).n&&(decide (k=0)||Op.bytesLess (x.us.getD (k-1) uz).u (x.us.getD k uz).u)):=rfl
    generalize srv 1 (x.us.getD k uz).u=R at *
    obtain ⟨v,b⟩:=R
    have ku:PC (ja0 Tryz.prog) 31 [strD (x.us.getD k uz).u] (.tup (.cons (.v (.int .i64 v)) (.cons (.v (.bool b)) .nil))):=ku
    cases b
    ·have hbad:okU x.us k=false:=hok
     have hX:=And.intro jb1 (And.intro jb5 (and_true))
     refine ja6 ?_
     have hK:=And.intro (ku) (And.intro (kl) trivial);refine rgx [1,5,6,23,24,25] ?_
     refine rgx [1,5,6,8,23,24,25] ?_
     refine rqgx [1,23,24,25,59] ?_
     refine iftx ?_
     refine rgx [2] ?_
     refine rX ?_;refine retx ?_;(try dsimp only [outV,ja5])
     rw [jm9 hkn hbad]
     exact jd0 rfl
    ·cases hl:lev (x.us.getD k uz).n
     ·rw [hl] at kl
      have hbad:okU x.us k=false:=by rw [hok,hl];rfl
      have hX:=And.intro jb1 (And.intro jb5 (and_true))
      refine ja6 ?_
      have hK:=And.intro (ku) (And.intro (kl) trivial);refine rgx [1,5,6,23,24,25] ?_
      refine rgx [1,5,6,8,23,24,25] ?_
      refine rqgx [1,23,24,25,59] ?_
      refine iftx ?_
      refine rgx [2] ?_
      refine rX ?_;refine retx ?_;(try dsimp only [outV,ja5])
      rw [jm9 hkn hbad]
      exact jd0 rfl
     ·rw [hl] at kl
      by_cases h0:k=0
      ·have dk:decide ((0:Int)<(k:Int))=false:=decide_eq_false (by omega)
       have hgood:okU x.us k=true:=by rw [hok,hl,decide_eq_true h0];rfl
       have hX:=And.intro jb1 (And.intro jb5 (dk))
       refine ja6 ?_
       have hK:=And.intro (ku) (And.intro (kl) trivial);refine rgx [1,5,6,23,24,25] ?_
       refine rgx [1,5,6,8,23,24,25] ?_
       refine rqgx [1,23,24,25,59] ?_
       refine iffs ?_
       refine rgx [1,23,24,25] ?_
       exact ⟨_,m-1,WeakX.take 1 rfl rfl rfl,by omega,k+1,by omega,fun j hj=>(by rcases Nat.lt_succ_iff_lt_or_eq.1 hj with h|rfl;exact hI j h;exact hgood),rfl⟩
      ·have dk:decide ((0:Int)<(k:Int))=true:=decide_eq_true (by omega)
       have hkm:((k:Int)-1).toNat=k-1:=by omega
       cases hb:Op.bytesLess (x.us.getD (k-1) uz).u (x.us.getD k uz).u
       ·have hbad:okU x.us k=false:=by rw [hok,hl,decide_eq_false h0,hb];rfl
        have hX:=And.intro jb1 (And.intro jb5 (And.intro dk (And.intro hkm (hb))))
        refine ja6 ?_
        have hK:=And.intro (ku) (And.intro (kl) trivial);refine rgx [1,5,6,23,24,25] ?_
        refine rgx [1,5,6,8,23,24,25] ?_
        refine rqgx [1,23,24,25,59] ?_
        refine iftx ?_
        refine rgx [2] ?_
        refine rX ?_;refine retx ?_;(try dsimp only [outV,ja5])
        rw [jm9 hkn hbad]
        exact jd0 rfl
       ·have hgood:okU x.us k=true:=by rw [hok,hl,hb,Bool.or_true];rfl
        have hX:=And.intro jb1 (And.intro jb5 (And.intro dk (And.intro hkm (hb))))
        refine ja6 ?_
        have hK:=And.intro (ku) (And.intro (kl) trivial);refine rgx [1,5,6,23,24,25] ?_
        refine rgx [1,5,6,8,23,24,25] ?_
        refine rqgx [1,23,24,25,59] ?_
        refine iffs ?_
        refine rgx [1,23,24,25] ?_
        exact ⟨_,m-1,WeakX.take 1 rfl rfl rfl,by omega,k+1,by omega,fun j hj=>(by rcases Nat.lt_succ_iff_lt_or_eq.1 hj with h|rfl;exact hI j h;exact hgood),rfl⟩
   ·intro hc;(try simp only [hcs,ne_eq] at hc)
    obtain rfl:k=x.us.length:=by omega
    rw [kr8 h6 hn hI]
    have hX:=And.intro jb1 (jb5)
    refine jc8 ?_
    refine rgx [2] ?_
    exact retF
  ·have d16:decide ((16:Int)<(x.us.length:Int))=true:=decide_eq_true (by omega)
   rw [qa7 hn]
   have hX:=And.intro jb1 (And.intro jb5 (d16))
   refine jc8 ?_
   refine rgx [1,21] ?_
   refine iftx ?_
   refine rgx [2] ?_
   exact retF
set_option maxHeartbeats 16000000 in
theorem kv8 (x:Lv) (hu:usB x.us):PC (ja0 Tryz.prog) 89 [lvD x] (iD (chkE x)):=by
 have k6:=qk0 x
 have d6:((sixL x).length:Int)=6:=rfl
 have hX:=and_true;refine pcx Tryz.func89 rfl Tryz.ntmps89 Tryz.results89 rfl ?_;intro w0 A
 have hX:=And.intro jb1 (d6)
 have hK:=And.intro (k6) trivial;refine rgx [1] ?_
 refine rgx [1,10,11,12] ?_
 (repeat refine ja2 ?_);refine jb2 ?_
 (repeat refine ja2 ?_)
 refine jc4 (fun m _ st=>∃k,k+m=6∧(∀j,j<k→lev ((sixL x).getD j 0)=true)∧st=mk [(1,.ptr 0 0),(10,.sl (sixL x) 0 iD),(11,iD 6),(12,iD (k:Int))] [some (.one (lvD x))]) 6 ⟨_,WeakX.refl _,0,rfl,fun j hj=>absurd hj (Nat.not_lt_zero _),rfl⟩ ?_
 rintro m _ _ ⟨k,hk,hI,rfl⟩
 have hX:=And.intro jb1 (jb5)
 refine rgx [1,10,11,12,13] ?_
 refine ifx ?_ ?_
 ·intro hc;(try simp only [hcs,ne_eq] at hc)
  have hkn:k<6:=by omega
  have kl:=kh7 ((sixL x).getD k 0)
  cases hl:lev ((sixL x).getD k 0)
  ·rw [hl] at kl
   rw [kk0 hkn hl]
   have hX:=And.intro jb1 (jb5)
   refine ja6 ?_
   have hK:=And.intro (kl) trivial;refine rgx [1,4,10,11,12] ?_
   refine rgx [1,10,11,12,18] ?_
   refine iftx ?_
   refine rgx [2] ?_
   exact retF
  ·rw [hl] at kl
   have hX:=And.intro jb1 (jb5)
   refine ja6 ?_
   have hK:=And.intro (kl) trivial;refine rgx [1,4,10,11,12] ?_
   refine rgx [1,10,11,12,18] ?_
   refine iffs ?_
   refine rgx [1,10,11,12] ?_
   exact ⟨_,m-1,WeakX.refl _,by omega,k+1,by omega,fun j hj=>(by rcases Nat.lt_succ_iff_lt_or_eq.1 hj with h|rfl;exact hI j h;exact hl),rfl⟩
 ·intro hc;(try simp only [hcs,ne_eq] at hc)
  obtain rfl:k=6:=by omega
  have h6:∀k,k<6→lev ((sixL x).getD k 0)=true:=hI
  clear hI
  by_cases hn:x.us.length≤16
  ·have d16:decide ((16:Int)<(x.us.length:Int))=false:=decide_eq_false (by omega)
   have hX:=And.intro jb1 (And.intro jb5 (d16))
   refine jc8 ?_
   refine rgx [1,23] ?_
   refine iffs ?_
   refine rgx [1,25,26,27] ?_
   (repeat refine ja2 ?_);refine jb2 ?_
   (repeat refine ja2 ?_)
   refine jc4 (fun m _ st=>∃k,k+m=x.us.length∧(∀j,j<k→okU x.us j=true)∧st=mk [(1,.ptr 0 0),(25,.sl x.us uz usD),(26,iD (x.us.length:Int)),(27,iD (k:Int))] [some (.one (lvD x))]) x.us.length ⟨_,WeakX.refl _,0,by omega,fun j hj=>absurd hj (Nat.not_lt_zero _),rfl⟩ ?_
   rintro m _ _ ⟨k,hk,hI,rfl⟩
   have hX:=And.intro jb1 (jb5)
   refine rgx [1,25,26,27,28] ?_
   refine ifx ?_ ?_
   ·intro hc;(try simp only [hcs,ne_eq] at hc)
    have hkn:k<x.us.length:=by omega
    have ku:=jl6 (x.us.getD k uz).u (hu k)
    have kl:=kh7 (x.us.getD k uz).n
    have hok:okU x.us k=((srv 1 (x.us.getD k uz).u).2&&lev (x.us.getD k uz).n&&(decide (k=0)||Op.bytesLess (x.us.getD (k-1) uz).u (x.us.getD k uz).u)):=rfl
    generalize srv 1 (x.us.getD k uz).u=R at *
    obtain ⟨v,b⟩:=R
    have ku:PC (ja0 Tryz.prog) 34 [strD (x.us.getD k uz).u] (.tup (.cons (.v (.int .i64 v)) (.cons (.v (.bool b)) .nil))):=ku
    cases b
    ·have hbad:okU x.us k=false:=hok
     have hX:=And.intro jb1 (And.intro jb5 (and_true))
     refine ja6 ?_
     have hK:=And.intro (ku) (And.intro (kl) trivial);refine rgx [1,5,6,25,26,27] ?_
     refine rgx [1,5,6,8,25,26,27] ?_
     refine rqgx [1,25,26,27,61] ?_
     refine iftx ?_
     refine rgx [2] ?_
     refine rX ?_;refine retx ?_;(try dsimp only [outV,ja5])
     rw [jm9 hkn hbad]
     exact jd0 rfl
    ·cases hl:lev (x.us.getD k uz).n
     ·rw [hl] at kl
      have hbad:okU x.us k=false:=by rw [hok,hl];rfl
      have hX:=And.intro jb1 (And.intro jb5 (and_true))
      refine ja6 ?_
      have hK:=And.intro (ku) (And.intro (kl) trivial);refine rgx [1,5,6,25,26,27] ?_
      refine rgx [1,5,6,8,25,26,27] ?_
      refine rqgx [1,25,26,27,61] ?_
      refine iftx ?_
      refine rgx [2] ?_
      refine rX ?_;refine retx ?_;(try dsimp only [outV,ja5])
      rw [jm9 hkn hbad]
      exact jd0 rfl
     ·rw [hl] at kl
      by_cases h0:k=0
      ·have dk:decide ((0:Int)<(k:Int))=false:=decide_eq_false (by omega)
       have hgood:okU x.us k=true:=by rw [hok,hl,decide_eq_true h0];rfl
       have hX:=And.intro jb1 (And.intro jb5 (dk))
       refine ja6 ?_
       have hK:=And.intro (ku) (And.intro (kl) trivial);refine rgx [1,5,6,25,26,27] ?_
       refine rgx [1,5,6,8,25,26,27] ?_
       refine rqgx [1,25,26,27,61] ?_
       refine iffs ?_
       refine rgx [1,25,26,27] ?_
       exact ⟨_,m-1,WeakX.take 1 rfl rfl rfl,by omega,k+1,by omega,fun j hj=>(by rcases Nat.lt_succ_iff_lt_or_eq.1 hj with h|rfl;exact hI j h;exact hgood),rfl⟩
      ·have dk:decide ((0:Int)<(k:Int))=true:=decide_eq_true (by omega)
       have hkm:((k:Int)-1).toNat=k-1:=by omega
       cases hb:Op.bytesLess (x.us.getD (k-1) uz).u (x.us.getD k uz).u
       ·have hbad:okU x.us k=false:=by rw [hok,hl,decide_eq_false h0,hb];rfl
        have hX:=And.intro jb1 (And.intro jb5 (And.intro dk (And.intro hkm (hb))))
        refine ja6 ?_
        have hK:=And.intro (ku) (And.intro (kl) trivial);refine rgx [1,5,6,25,26,27] ?_
        refine rgx [1,5,6,8,25,26,27] ?_
        refine rqgx [1,25,26,27,61] ?_
        refine iftx ?_
        refine rgx [2] ?_
        refine rX ?_;refine retx ?_;(try dsimp only [outV,ja5])
        rw [jm9 hkn hbad]
        exact jd0 rfl
       ·have hgood:okU x.us k=true:=by rw [hok,hl,hb,Bool.or_true];rfl
        have hX:=And.intro jb1 (And.intro jb5 (And.intro dk (And.intro hkm (hb))))
        refine ja6 ?_
        have hK:=And.intro (ku) (And.intro (kl) trivial);refine rgx [1,5,6,25,26,27] ?_
        refine rgx [1,5,6,8,25,26,27] ?_
        refine rqgx [1,25,26,27,61] ?_
        refine iffs ?_
        refine rgx [1,25,26,27] ?_
        exact ⟨_,m-1,WeakX.take 1 rfl rfl rfl,by omega,k+1,by omega,fun j hj=>(by rcases Nat.lt_succ_iff_lt_or_eq.1 hj with h|rfl;exact hI j h;exact hgood),rfl⟩
   ·intro hc;(try simp only [hcs,ne_eq] at hc)
    obtain rfl:k=x.us.length:=by omega
    rw [kr8 h6 hn hI]
    have hX:=And.intro jb1 (jb5)
    refine jc8 ?_
    refine rgx [2] ?_
    exact retF
  ·have d16:decide ((16:Int)<(x.us.length:Int))=true:=decide_eq_true (by omega)
   rw [qa7 hn]
   have hX:=And.intro jb1 (And.intro jb5 (d16))
   refine jc8 ?_
   refine rgx [1,23] ?_
   refine iftx ?_
   refine rgx [2] ?_
   exact retF
theorem vj8 {α:Type}{l:List α}{z:α}{k:Nat} (hk:k<l.length):l.take (k+1)=l.take k++[l.getD k z]:=by
 rw [List.take_succ_eq_append_getElem hk,List.getD_eq_getElem?_getD,List.getElem?_eq_getElem hk,Option.getD_some]
theorem jt8 {x:Lv} (h:chkE x=0):(∀k,k<6→lev ((sixL x).getD k 0)=true)∧x.us.length≤16∧∀i,i<x.us.length→okU x.us i=true:=by
 unfold chkE at h
 split at h
 ·rename_i hb
  unfold chkB at hb
  rw [Bool.and_eq_true,Bool.and_eq_true,List.all_eq_true,List.all_eq_true,decide_eq_true_eq] at hb
  refine ⟨fun k hk=>hb.1.1 _ ?_,hb.1.2,fun i hi=>hb.2 i (List.mem_range.2 hi)⟩
  rw [List.getD_eq_getElem?_getD,List.getElem?_eq_getElem (show k<(sixL x).length from hk),Option.getD_some]
  exact List.getElem_mem _
 ·cases h
theorem vj3 {k:Nat}{t:List UInt8} (h:(srv k t).2=true):t.length≤64:=by
 unfold srv at h
 split at h
 ·rename_i hc
  obtain ⟨h0,_⟩:=hc
  rw [jz2] at h0
  split at h0
  ·rename_i h1
   obtain ⟨_,_,hok,ht⟩:=h1
   rw [← ht]
   have hn:namB (hdT t)=true:=by
    unfold okI at hok
    rw [Bool.and_eq_true,Bool.and_eq_true] at hok
    exact hok.1.2
   have:=jp1 hn
   have hd:=jl4 (u:=((puS 63 (tlT t)).1:Int).toNat) (by have:=kc4 63 (tlT t);omega)
   unfold txtI
   simp only [List.length_append,List.length_cons,List.length_nil]
   omega
  ·cases h0
 ·cases h

end Go.Proofs.YthphphlbedlicaaGreatDoor
