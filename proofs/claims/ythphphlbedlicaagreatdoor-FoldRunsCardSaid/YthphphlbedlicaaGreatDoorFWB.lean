/- Fold: several events (both). (Written by gen_wb.py.) -/
import Derived.Test.YthphphlbedlicaaGreatDoorFPD
import Derived.Test.YthphphlbedlicaaGreatDoorFUV
import Derived.Test.YthphphlbedlicaaGreatDoorFVN
import Derived.Test.YthphphlbedlicaaGreatDoorFQL
set_option linter.unusedSimpArgs false
set_option linter.unusedVariables false
set_option maxRecDepth 10000
namespace Go.Proofs.YthphphlbedlicaaGreatDoor
open Go.RowKit
def runD (x:Rm×Nat×Int):D:=.tup (.cons (rmD x.1) (.cons (iD (x.2.1:Int)) (.cons (iD x.2.2) .nil)))
theorem kc5 (r:Rm) (n:Nat) (w:Int):runD (r,n,w) = .tup (.cons (rmD r) (.cons (.v (.int .i64 (n:Int))) (.cons (.v (.int .i64 w)) .nil))):=rfl
theorem jz1:ccB []:=fun i=>by
 rw [List.getD_nil]
 unfold clB evB clz evz
 decide
theorem vn2 {s:List Cl}{e:Ev} (hs:ccB s) (he:evB e):ccB (setC s e).1:=by
 have hz:clB clz:=by
  have:=jz1 0
  rwa [List.getD_nil] at this
 have ho:clB (ofE e):=⟨he.2.2.2,he⟩
 unfold setC
 split
 ·split
  ·split
   ·intro k
    by_cases hk:k<s.length
    ·rw [jx2 k hk]
     split
     ·exact ho
     ·exact hs k
    ·rw [List.getD_eq_getElem?_getD,List.getElem?_eq_none (by rw [List.length_set];omega)]
     exact hz
   ·split
    ·exact hs
    ·intro k
     show clB ((s.take (plE s e)++ofE e::s.drop (plE s e)).getD k clz)
     rw [jw2 (p:=plE s e) (c:=ofE e) (jp3 _ _)]
     split
     ·exact hs k
     ·split
      ·exact ho
      ·exact hs (k-1)
  ·exact hs
 ·exact jz1
theorem qo0 {r:Rm}{e:Ev} (hs:ccB r.s) (he:evB e):ccB (nxtR r e).1.s:=by
 unfold nxtR
 split
 ·exact jz1
 ·split
  ·exact hs
  ·split
   ·exact hs
   ·split
    ·split
     ·rw [show (trnR ⟨(setC r.s e).1,r.h,r.e,r.n+1⟩ e,(0:Int)).1.s=(setC r.s e).1 from by unfold trnR;split<;>(try split)<;>rfl]
      exact vn2 hs he
     ·exact hs
    ·rw [show (trnR ⟨r.s,r.h,r.e,r.n+1⟩ e,(0:Int)).1.s=r.s from by unfold trnR;split<;>(try split)<;>rfl]
     exact hs
theorem kw8 {l:List Ev}{k:Nat}{r:Rm} (hk:k<l.length):runR r (l.drop k) k=if (nxtR r (l.getD k evz)).2=0 then runR (nxtR r (l.getD k evz)).1 (l.drop (k+1)) (k+1) else (r,k,(nxtR r (l.getD k evz)).2):=by
 rw [List.drop_eq_getElem_cons hk,List.getD_eq_getElem?_getD,List.getElem?_eq_getElem hk,Option.getD_some]
 rfl
theorem kw2 (i:Nat) (C:Cx) (w:World) (bs:List (Option Nat)) (x:Value) (hi:i<4) (hx:R1 C w bs x (cell (.cons (.v (.slice none 0 0)) (.cons (.v (.int .i64 0)) (.cons (.v (.int .i64 0)) (.cons (.v (.int .i64 0)) .nil)))) i)):R1 C w bs x (cell (rmD rmz) i):=by
 rcases i with _|_|_|_|i
 ·exact R1.im (qm0 (z:=clz) (e:=clD) hx)
 ·exact hx
 ·exact hx
 ·exact hx
 ·omega
set_option maxHeartbeats 16000000 in
theorem kt6 (l:List Ev) (hl:∀i,evB (l.getD i evz)) (hn:l.length≤140737488351232):PC (ja0 Tryz.prog) 17 [.sl l evz evtD] (runD (runR rmz l 0)):=by
 have hX:=and_true;refine pcx Tryz.func17 rfl Tryz.ntmps17 Tryz.results17 rfl ?_;intro w0 A
 have hX:=And.intro and_true (and_true)
 refine rgx [0,2] ?_
 refine rgx [0,2,5] ?_
 refine rgx [0,2,5,10,11,12] ?_
 (repeat refine ja2 ?_);refine jb2 ?_
 (repeat refine ja2 ?_)
 refine ji8 (fun _ _ _ _=>Weak.one 1 (d':=rmD rmz) rfl rfl fun i w bs x hi hx=>kw2 i _ w bs x hi hx) ?_
 refine ji5 [0,2,5,10,11,12] ?_
 refine jc4 (fun m _ st=>∃k r,k+m=l.length∧runR rmz l 0=runR r (l.drop k) k∧ccB r.s∧st=mk [(0,.sl l evz evtD),(2,.ptr 0 0),(5,.ptr 1 0),(10,.sl l evz evtD),(11,iD (l.length:Int)),(12,iD (k:Int))] [some (.one (.cons (.v (.slice none 0 0)) (.cons (.v (.int .i64 0)) (.cons (.v (.int .i64 0)) (.cons (.v (.int .i64 0)) .nil))))),some (.one (rmD r))]) l.length ⟨_,WeakX.refl _,0,rmz,by omega,rfl,jz1,rfl⟩ ?_
 rintro m _ _ ⟨k,r,hk,hI,hs,rfl⟩
 have hX:=And.intro ji3 (and_true)
 refine rgx [0,2,5,10,11,12,13] ?_
 refine ifx ?_ ?_
 ·intro hc;(try simp only [hcs,ne_eq] at hc)
  have hkn:k<l.length:=by omega
  rw [kw8 hkn] at hI
  have he:=hl k
  have kn:PC (ja0 Tryz.prog) 5 [rmD r,evtD (l.getD k evz)] (.tup (.cons (rmD (nxtR r (l.getD k evz)).1) (.cons (.v (.int .i64 (nxtR r (l.getD k evz)).2)) .nil))):=kk7 r (l.getD k evz) hs he
  have hs2:=qo0 hs he
  have hpe:ja4 (evtD (l.getD k evz))=true:=rfl
  by_cases hw:(nxtR r (l.getD k evz)).2=0
  ·have d1:decide ((nxtR r (l.getD k evz)).2=0)=true:=decide_eq_true hw
   rw [if_pos hw] at hI
   generalize (nxtR r (l.getD k evz)).1=r2 at *
   generalize (nxtR r (l.getD k evz)).2=w at *
   have hX:=And.intro ji3 (And.intro jb7 (d1))
   refine ja6 ?_
   have hK:=And.intro (kn) trivial;refine rgx [0,2,5,6,7,10,11,12] ?_
   refine rgx [0,2,5,6,8,9,10,11,12] ?_
   refine rgx [0,2,5,6,8,9,10,11,12,24] ?_
   refine iffs ?_
   refine rgx [0,2,5,10,11,12] ?_
   refine rgx [0,2,5,10,11,12] ?_
   exact ⟨_,m-1,WeakX.take 2 rfl rfl rfl,by omega,k+1,r2,by omega,hI,hs2,rfl⟩
  ·have d1:decide ((nxtR r (l.getD k evz)).2=0)=false:=decide_eq_false hw
   rw [hI,if_neg hw,kc5]
   generalize (nxtR r (l.getD k evz)).1=r2 at *
   generalize (nxtR r (l.getD k evz)).2=w at *
   have hX:=And.intro ji3 (And.intro jb7 (d1))
   refine ja6 ?_
   have hK:=And.intro (kn) trivial;refine rgx [0,2,5,6,7,10,11,12] ?_
   refine rgx [0,2,5,6,8,9,10,11,12] ?_
   refine rgx [0,2,5,6,8,9,10,11,12,24] ?_
   refine iftx ?_
   refine rgx [2,3,4] ?_
   exact retF
 ·intro hc;(try simp only [hcs,ne_eq] at hc)
  obtain rfl:k=l.length:=by omega
  rw [hI,List.drop_length,show runR r [] l.length=(r,l.length,0) from rfl,kc5]
  have hX:=And.intro ji3 (and_true)
  refine jc8 ?_
  refine rgx [2,3,4] ?_
  exact retF
end Go.Proofs.YthphphlbedlicaaGreatDoor
