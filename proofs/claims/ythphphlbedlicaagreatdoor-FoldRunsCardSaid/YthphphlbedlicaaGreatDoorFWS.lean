/- Fold: several events, as the document says. (Written by gen_wb.py.) The laws of fold, walked: any events come to what they must. -/
import Derived.Test.YthphphlbedlicaaGreatDoorFPD
import Derived.Test.YthphphlbedlicaaGreatDoorFWA
import Derived.Test.YthphphlbedlicaaGreatDoorFWB
import Derived.Test.YthphphlbedlicaaGreatDoorFWE
set_option linter.unusedSimpArgs false
set_option linter.unusedVariables false
set_option maxRecDepth 10000
namespace Go.Proofs.YthphphlbedlicaaGreatDoor
open Go.RowKit
set_option maxHeartbeats 16000000 in
theorem vh8 (l:List Ev) (hl:∀i,evB (l.getD i evz)) (hn:l.length≤140737488351232):PC (ja0 Tryz.prog) 18 [.sl l evz evtD] (runD (runR rmz l 0)):=by
 have hX:=and_true;refine pcx Tryz.func18 rfl Tryz.ntmps18 Tryz.results18 rfl ?_;intro w0 A
 have hX:=And.intro and_true (and_true)
 refine rgx [0,2] ?_
 refine rgx [0,2,5] ?_
 refine rgx [0,2,5,10,11,12] ?_
 (repeat refine ja2 ?_);refine jb2 ?_
 (repeat refine ja2 ?_)
 refine ji8 (fun _ _ _ _=>Weak.one 1 (d':=rmD rmz) rfl rfl fun i w bs x hi hx=>kw2 i _ w bs x hi hx) ?_
 refine ji5 [0,2,5,10,11,12] ?_
 refine jc4 (fun m _ st=>∃k r,k+m=l.length∧runR rmz l 0=runR r (l.drop k) k∧ccB r.s∧st=mk [(0,.sl l evz evtD),(2,.ptr 0 0),(5,.ptr 1 0),(10,.sl l evz evtD),(11,iD (l.length:Int)),(12,iD (k:Int))] [some (.one (.cons (.v (.slice none 0 0)) (.cons (.v (.int .i64 0)) (.cons (.v (.int .i64 0)) (.cons (.v (.int .i64 0)) .nil))))),some (.one (rmD r))]) l.length ⟨_,WeakX.refl _,0,rmz,by omega,rfl,jz1,rfl⟩ ?_
 rintro m _ _ ⟨k,r,hk,hI,hs,rfl⟩
 have hX:=And.intro ji3 (and_true)
 refine rgx [0,2,5,10,11,12,13] ?_
 refine ifx ?_ ?_
 ·intro hc;(try simp only [hcs,ne_eq] at hc)
  have hkn:k<l.length:=by omega
  rw [kw8 hkn] at hI
  have he:=hl k
  have kn:PC (ja0 Tryz.prog) 6 [rmD r,evtD (l.getD k evz)] (.tup (.cons (rmD (nxtR r (l.getD k evz)).1) (.cons (.v (.int .i64 (nxtR r (l.getD k evz)).2)) .nil))):=kw0 r (l.getD k evz) hs he
  have hs2:=qo0 hs he
  have hpe:ja4 (evtD (l.getD k evz))=true:=rfl
  by_cases hw:(nxtR r (l.getD k evz)).2=0
  ·have d1:decide ((nxtR r (l.getD k evz)).2=0)=true:=decide_eq_true hw
   rw [if_pos hw] at hI
   generalize (nxtR r (l.getD k evz)).1=r2 at *
   generalize (nxtR r (l.getD k evz)).2=w at *
   have hX:=And.intro ji3 (And.intro jb7 (d1))
   refine ja6 ?_
   have hK:=And.intro (kn) trivial;refine rgx [0,2,5,6,7,10,11,12] ?_
   refine rgx [0,2,5,6,8,9,10,11,12] ?_
   refine rgx [0,2,5,6,8,9,10,11,12,24] ?_
   refine iffs ?_
   refine rgx [0,2,5,10,11,12] ?_
   refine rgx [0,2,5,10,11,12] ?_
   exact ⟨_,m-1,WeakX.take 2 rfl rfl rfl,by omega,k+1,r2,by omega,hI,hs2,rfl⟩
  ·have d1:decide ((nxtR r (l.getD k evz)).2=0)=false:=decide_eq_false hw
   rw [hI,if_neg hw,kc5]
   generalize (nxtR r (l.getD k evz)).1=r2 at *
   generalize (nxtR r (l.getD k evz)).2=w at *
   have hX:=And.intro ji3 (And.intro jb7 (d1))
   refine ja6 ?_
   have hK:=And.intro (kn) trivial;refine rgx [0,2,5,6,7,10,11,12] ?_
   refine rgx [0,2,5,6,8,9,10,11,12] ?_
   refine rgx [0,2,5,6,8,9,10,11,12,24] ?_
   refine iftx ?_
   refine rgx [2,3,4] ?_
   exact retF
 ·intro hc;(try simp only [hcs,ne_eq] at hc)
  obtain rfl:k=l.length:=by omega
  rw [hI,List.drop_length,show runR r [] l.length=(r,l.length,0) from rfl,kc5]
  have hX:=And.intro ji3 (and_true)
  refine jc8 ?_
  refine rgx [2,3,4] ?_
  exact retF
set_option maxHeartbeats 16000000 in
theorem qi8 (l:List Ev) (hl:∀i,evB (l.getD i evz)) (hn:l.length≤140737488351232):PC (ja0 Tryz.prog) 4 [.sl l evz evtD] (bD true):=by
 have lv:=kn2
 by_cases h1:100<l.length
 ·have d1:decide ((100:Int)<(l.length:Int))=true:=decide_eq_true (by omega)
  have hX:=and_true;refine pcx Tryz.func4 rfl Tryz.ntmps4 Tryz.results4 rfl ?_;intro w0 A
  have hX:=And.intro d1 (and_true)
  have hK:=And.intro (lv) trivial;refine rgx [0] ?_
  refine rgx [0,11] ?_
  refine iftx ?_
  refine rgx [2] ?_
  exact retF
 have d1:decide ((100:Int)<(l.length:Int))=false:=decide_eq_false (by omega)
 have k1:=kt6 l hl hn
 have k2:=vh8 l hl hn
 have hb:=vv3 hl (by omega)
 have k3:=kw1 (runR rmz l 0).1 (by omega)
 unfold runD at k1 k2
 generalize (runR rmz l 0).1=r at *
 generalize (runR rmz l 0).2.1=n at *
 generalize (runR rmz l 0).2.2=w at *
 have hX:=and_true;refine pcx Tryz.func4 rfl Tryz.ntmps4 Tryz.results4 rfl ?_;intro w0 A
 have hX:=And.intro ji3 (And.intro d1 (jo3))
 have hK:=And.intro (lv) (And.intro (k1) (And.intro (k2) (And.intro (k3) trivial)));refine rgx [0] ?_
 refine rgx [0,11] ?_
 refine iffs ?_
 refine rgx [0,3,4,5] ?_
 refine rgx [3,4,5,6,7,8] ?_
 refine rggx [2] ?_
 exact retF
end Go.Proofs.YthphphlbedlicaaGreatDoor
