/- A room's events, walked. -/
import Derived.Test.YtegfnhibmhjdbaaGreatDoorAPD
import Derived.Test.YtegfnhibmhjdbaaGreatDoorAWQ
import Derived.Test.YtegfnhibmhjdbaaGreatDoorAWB
import Derived.Test.YtegfnhibmhjdbaaGreatDoorAWC
import Derived.Test.YtegfnhibmhjdbaaGreatDoorACA
set_option linter.unusedSimpArgs false
set_option linter.unusedVariables false
set_option maxRecDepth 10000
namespace Go.Proofs.YtegfnhibmhjdbaaGreatDoor
open Go.RowKit
theorem vx0:PC (ja6 Tryz.prog) 38 [] (bD true):=by
 have k:PC (ja6 Tryz.prog) 79 [.v (.int .u64 300)] (.tup (.cons (.v (.string (B [172,2]))) (.cons (.v (.int .i64 0)) .nil))):=wb4 300 (by decide)
 have g:=dsT (a:=[172,2]) (b:=[172,2]) rfl
 have hX:=and_true;refine pcx Tryz.func38 rfl Tryz.ntmps38 Tryz.results38 rfl ?_;intro w0 A
 have hX:=And.intro g (and_true)
 have hK:=And.intro (k) trivial;(repeat refine ja0 ?_);refine rgx [] ?_
 (repeat refine ja0 ?_);refine rgx [1] ?_
 (repeat refine ja0 ?_);refine rgx [0] ?_
 (repeat refine ja0 ?_);refine ja3 ?_;refine retx ?_;(try dsimp only [outV,ja4])
 exact ja2 rfl
theorem vx2 (s:List Cl):(joiC s).length≤s.length:=by unfold joiC;rw [List.length_map];exact List.length_filter_le _ _
structure Held (T:Prop):Prop where
 t:T
theorem cutx {G T:Prop} (main:Held T→G) (rest:T):G:=main ⟨rest⟩
set_option maxHeartbeats 64000000 in
theorem vw7 (l:List Ev) (hl:∀i,evB (l.getD i evz)) (hn:l.length≤140737488351232):PC (ja6 Tryz.prog) 10 [.sl l evz evtD] (bD true):=by
 have lv:=vx0
 by_cases h1:60<l.length
 ·have d1:decide ((60:Int)<(l.length:Int))=true:=decide_eq_true (by omega)
  have hX:=and_true;refine pcx Tryz.func10 rfl Tryz.ntmps10 Tryz.results10 rfl ?_;intro w0 A
  have hX:=And.intro d1 (and_true)
  have hK:=And.intro (lv) trivial;(repeat refine ja0 ?_);refine rgx [0] ?_
  (repeat refine ja0 ?_);refine rgx [0,17] ?_
  (repeat refine ja0 ?_);refine iffx ?_
  (repeat refine ja0 ?_);refine ja1 ?_
  (repeat refine ja0 ?_);refine rgx [0,20] ?_
  (repeat refine ja0 ?_);refine iftx ?_
  (repeat refine ja0 ?_);refine rgx [2] ?_
  (repeat refine ja0 ?_);refine ja3 ?_;refine retx ?_;(try dsimp only [outV,ja4])
  exact ja2 rfl
 have d1:decide ((60:Int)<(l.length:Int))=false:=decide_eq_false (by omega)
 have k1:=vr6 l hl hn
 obtain ⟨_,h2,h3,_⟩:=vt0 l rmz 0 vr8 (by omega)
 have hI0:runR rmz l 0=runR rmz (l.drop 0) 0:=rfl
 generalize runR rmz l 0=R at *
 obtain ⟨w,n,why⟩:=R
 simp only at h2 h3
 rw [Nat.zero_add] at h2
 have k1:PC (ja6 Tryz.prog) 35 [.sl l evz evtD] (.tup (.cons (rmD w) (.cons (.v (.int .i64 (n:Int))) (.cons (.v (.int .i64 why)) .nil)))):=k1
 have d2:decide ((n:Int)<0)=false:=decide_eq_false (by omega)
 have d3:decide ((l.length:Int)<(n:Int))=false:=decide_eq_false (by omega)
 have d4:decide (w.n=(n:Int))=true:=decide_eq_true h3
 have hnt:(n:Int).toNat=n:=Int.toNat_natCast n
 have htl:(l.take n).length=n:=by rw [List.length_take];omega
 have hX:=and_true;refine pcx Tryz.func10 rfl Tryz.ntmps10 Tryz.results10 rfl ?_;intro w0 A
 have hX:=And.intro ji8 (And.intro jf0 (And.intro d1 (And.intro d2 (And.intro d3 (And.intro d4 (And.intro hnt (htl)))))))
 have hK:=And.intro (lv) (And.intro (k1) trivial);(repeat refine ja0 ?_);refine rgx [0] ?_
 (repeat refine ja0 ?_);refine rgx [0,17] ?_
 (repeat refine ja0 ?_);refine iffx ?_
 (repeat refine ja0 ?_);refine ja1 ?_
 (repeat refine ja0 ?_);refine rgx [0,20] ?_
 (repeat refine ja0 ?_);refine iffx ?_
 (repeat refine ja0 ?_);refine ja1 ?_
 (repeat refine ja0 ?_);refine rgx [0,3,4] ?_
 (repeat refine ja0 ?_);refine rggx [0,3,4,40] ?_
 (repeat refine ja0 ?_);refine iffx ?_
 (repeat refine ja0 ?_);refine ja1 ?_
 (repeat refine ja0 ?_);refine rgx [0,3,4,6] ?_
 (repeat refine ja0 ?_);refine rgx [3,4,6,43,44,45] ?_
 (repeat refine ja0 ?_);refine ja5 ?_
 (repeat refine ja0 ?_)
 have hLe:∀i,i<n→(l.take n).getD i evz=l.getD i evz:=fun i hi=>by
  rw [List.getD_eq_getElem?_getD,List.getElem?_take_of_lt hi,← List.getD_eq_getElem?_getD]
 generalize l.take n=L at *
 refine jk5 (fun _ _ _ _=>Weak.one 1 (d':=rmD rmz) rfl rfl fun i w bs x hi hx=>vt9 i _ w bs x hi hx) ?_
 refine jk0 [3,4,6,43,44,45] ?_
 refine jd4 (fun m _ st=>∃i r,i+m=n∧rmOk r i∧(i=0→r.s=[])∧(0<i→rmL r.s)∧ccB r.s∧(w,n,why)=runR r (l.drop i) i∧st=mk [(3,.ptr 0 0),(4,iD (n:Int)),(6,.ptr 1 0),(43,.sl L evz evtD),(44,iD (n:Int)),(45,iD (i:Int))] [some (.one (rmD w)),some (.one (rmD r))]) n ⟨_,WeakX.refl _,0,rmz,by omega,vr8,fun _=>rfl,fun h=>absurd h (Nat.lt_irrefl 0),vr7,hI0,rfl⟩ ?_
 rintro m _ _ ⟨i,r,hi,hok,hs0,hsm,hcc,hI,rfl⟩
 have hX:=And.intro ji8 (htl)
 (repeat refine ja0 ?_);refine rgx [3,4,6,43,44,45,46] ?_
 (repeat refine ja0 ?_);refine ifx ?_ ?_
 ·intro hc;(try simp only [hcs,ne_eq] at hc)
  have hin:i<n:=by omega
  have hst:=vw4 (R:=(w,n,why)) (by omega) hok (by rcases Nat.eq_zero_or_pos i with h|h;exact .inl (hs0 h);exact .inr (hsm h)) hI hin (by omega)
  have he:=hl i
  rw [← hLe i hin] at hst he
  have hpe:jb0 (evtD (L.getD i evz))=true:=rfl
  have hX:=And.intro ji8 (And.intro htl (hpe))
  (repeat refine ja0 ?_);refine ja1 ?_
  (repeat refine ja0 ?_);refine ja5 ?_
  (repeat refine ja0 ?_);refine rgx [3,4,6,7,8,43,44,45] ?_
  generalize L.getD i evz=e at *
  obtain ⟨ha,hz,hok2,hm2,hI2⟩:=hst
  have hsl:r.s.length≤140737488351232:=by have:=hok.2.2;omega
  have hsl2:(nxtR r e).1.s.length≤61:=by have:=hok2.2.2;omega
  have hcc2:ccB (nxtR r e).1.s:=vt8 hcc he
  have km:=ka1 r.s e.s hsl
  have kn:=vb8 r e hcc he
  unfold rmE at kn
  rw [hz] at kn
  have k2:=jy1 (nxtR r e).1.s hcc2
  unfold lvR at k2
  rw [hm2.2] at k2
  have hck:=kh0 hm2.2
  have hul:=jw2 hck
  have k3:=kv3 (levC (nxtR r e).1.s).1 hul.1
  rw [hck] at k3
  have k4:=vs3 (nxtR r e).1 (by omega)
  have hjl:=vx2 (nxtR r e).1.s
  have hjm:∀u ∈ joiC (nxtR r e).1.s,memC (nxtR r e).1.s u=joT:=fun u hu=>vy9 (ke0 hok2.1).1 hu
  have hot:∀u,ofL (levC (nxtR r e).1.s).1 u≤100:=wa8 hck
  have hsay:0<i→(¬e.k=2→memC r.s e.s=joT)∧¬memC r.s e.s=baT:=fun h=>say (hsm h) ha
  have hk1:e.k=1↔i=0:=by
   constructor
   ·intro h
    rcases Nat.eq_zero_or_pos i with h0|h0
    ·exact h0
    ·exact absurd h (vt1 (hsm h0) ha)
   ·intro h
    rw [hs0 h] at ha
    exact vr9 ha
  clear ha hz
  generalize memC r.s e.s=mm at *
  generalize (nxtR r e).1=r2 at *
  generalize (levC r2.s).1=y at *
  apply cutx
  ·intro tail
   rcases Nat.eq_zero_or_pos i with h0|h0
   ·have e0:decide ((i:Int)=0)=true:=decide_eq_true (by omega)
    have e1:decide ((e.k:Int)=1)=true:=decide_eq_true (by have:=hk1.2 h0;omega)
    have e2:decide ((0:Int)<(i:Int))=false:=decide_eq_false (by omega)
    have hX:=And.intro ji8 (And.intro jf0 (And.intro ja9 (And.intro e0 (And.intro e1 (e2)))))
    have hK:=And.intro (km) trivial;(repeat refine ja0 ?_);refine rgx [3,4,6,7,8,43,44,45,55] ?_
    (repeat refine ja0 ?_);refine iffx ?_
    (repeat refine ja0 ?_);refine ja1 ?_
    (repeat refine ja0 ?_);refine rgx [3,4,6,7,8,9,43,44,45] ?_
    (repeat refine ja0 ?_);refine rggx [3,4,6,8,43,44,45,79] ?_
    (repeat refine ja0 ?_);refine iffx ?_
    (repeat refine ja0 ?_);refine ja1 ?_
    exact tail.t
   ·have hnk:¬e.k=1:=fun h=>by have:=hk1.1 h;omega
    have e0:decide ((i:Int)=0)=false:=decide_eq_false (by omega)
    have e1:decide ((e.k:Int)=1)=false:=decide_eq_false (by omega)
    have e2:decide ((0:Int)<(i:Int))=true:=decide_eq_true (by omega)
    have gb:=dsF (b:=[98,97,110]) (hsay h0).2
    by_cases c2:e.k=2
    ·have e3:decide ((e.k:Int)=2)=true:=decide_eq_true (by omega)
     have hX:=And.intro ji8 (And.intro jf0 (And.intro ja9 (And.intro e0 (And.intro e1 (And.intro e2 (And.intro e3 (gb)))))))
     have hK:=And.intro (km) trivial;(repeat refine ja0 ?_);refine rgx [3,4,6,7,8,43,44,45,55] ?_
     (repeat refine ja0 ?_);refine iffx ?_
     (repeat refine ja0 ?_);refine ja1 ?_
     (repeat refine ja0 ?_);refine rgx [3,4,6,7,8,9,43,44,45] ?_
     (repeat refine ja0 ?_);refine rggx [3,4,6,8,43,44,45,79] ?_
     (repeat refine ja0 ?_);refine iffx ?_
     (repeat refine ja0 ?_);refine ja1 ?_
     exact tail.t
    ·have e3:decide ((e.k:Int)=2)=false:=decide_eq_false (by omega)
     have gj:=dsT (b:=[106,111,105,110]) ((hsay h0).1 c2)
     have hX:=And.intro ji8 (And.intro jf0 (And.intro ja9 (And.intro e0 (And.intro e1 (And.intro e2 (And.intro e3 (And.intro gb (gj))))))))
     have hK:=And.intro (km) trivial;(repeat refine ja0 ?_);refine rgx [3,4,6,7,8,43,44,45,55] ?_
     (repeat refine ja0 ?_);refine iffx ?_
     (repeat refine ja0 ?_);refine ja1 ?_
     (repeat refine ja0 ?_);refine rgx [3,4,6,7,8,9,43,44,45] ?_
     (repeat refine ja0 ?_);refine rggx [3,4,6,8,43,44,45,79] ?_
     (repeat refine ja0 ?_);refine iffx ?_
     (repeat refine ja0 ?_);refine ja1 ?_
     exact tail.t
  ·skip
   have hX:=And.intro ji8 (And.intro jc8 (And.intro jf0 (kg2)))
   have hK:=And.intro (kn) (And.intro (k2) (And.intro (k3) (And.intro (k4) trivial)));(repeat refine ja0 ?_);refine rgx [3,4,6,10,11,43,44,45] ?_
   (repeat refine ja0 ?_);refine rgx [3,4,6,10,43,44,45,87] ?_
   (repeat refine ja0 ?_);refine iffx ?_
   (repeat refine ja0 ?_);refine ja1 ?_
   (repeat refine ja0 ?_);refine rgx [3,4,6,43,44,45] ?_
   (repeat refine ja0 ?_);refine rgx [3,4,6,12,13,43,44,45] ?_
   (repeat refine ja0 ?_);refine rggx [3,4,6,12,43,44,45,101] ?_
   (repeat refine ja0 ?_);refine iffx ?_
   (repeat refine ja0 ?_);refine ja1 ?_
   (repeat refine ja0 ?_);refine rgx [3,4,6,12,43,44,45,103,104,105] ?_
   (repeat refine ja0 ?_);refine ja5 ?_
   (repeat refine ja0 ?_)
   generalize joiC r2.s=J at *
   refine jd4 (fun m2 _ st=>∃k,k+m2=J.length∧st=mk [(3,.ptr 0 0),(4,iD (n:Int)),(6,.ptr 1 0),(12,.ptr 4 0),(43,.sl L evz evtD),(44,iD (n:Int)),(45,iD (i:Int)),(103,.sl J [] strD),(104,iD (J.length:Int)),(105,iD (k:Int))] [some (.one (rmD w)),some (.one (rmD r2)),some (.one (evtD e)),some (.one (rmD r2)),some (.one (lvD y))]) J.length ⟨_,WeakX.refl _,0,by omega,rfl⟩ ?_
   rintro m2 _ _ ⟨k,hk,rfl⟩
   have hX:=And.intro ji8 (jc8)
   (repeat refine ja0 ?_);refine rgx [3,4,6,12,43,44,45,103,104,105,106] ?_
   (repeat refine ja0 ?_);refine ifx ?_ ?_
   ·intro hc2;(try simp only [hcs,ne_eq] at hc2)
    have hkn:k<J.length:=by omega
    have hj:=hjm (J.getD k []) (by rw [List.getD_eq_getElem?_getD,List.getElem?_eq_getElem hkn];exact List.getElem_mem hkn)
    (repeat refine ja0 ?_);refine ja1 ?_
    (repeat refine ja0 ?_);refine ja5 ?_
    (repeat refine ja0 ?_);refine rgx [3,4,6,12,15,43,44,45,103,104,105] ?_
    generalize J.getD k []=u at *
    have kf:=jn4 y u hul.2
    have kq:=ka1 r2.s u (by omega)
    have g1:decide ((100:Int)<ofL y u)=false:=decide_eq_false (by have:=hot u;omega)
    have g2:=dsT (b:=[106,111,105,110]) hj
    generalize ofL y u=v at *
    generalize memC r2.s u=mu at *
    have hX:=And.intro ji8 (And.intro jc8 (And.intro jf0 (And.intro g1 (g2))))
    have hK:=And.intro (kf) (And.intro (kq) trivial);(repeat refine ja0 ?_);refine rggx [3,4,6,12,43,44,45,103,104,105,119] ?_
    (repeat refine ja0 ?_);refine iffx ?_
    (repeat refine ja0 ?_);refine ja1 ?_
    (repeat refine ja0 ?_);refine rgx [3,4,6,12,43,44,45,103,104,105] ?_
    exact ⟨_,m2-1,WeakX.refl _,by omega,k+1,by omega,rfl⟩
   ·intro hc2;(try simp only [hcs,ne_eq] at hc2)
    have hX:=And.intro ji8 (jc8)
    (repeat refine ja0 ?_);refine jc0 ?_
    (repeat refine ja0 ?_);refine rgx [3,4,6,43,44,45] ?_
    exact ⟨_,m-1,WeakX.take 2 rfl rfl rfl,by omega,i+1,r2,by omega,hok2,fun h=>by omega,fun _=>hm2,hcc2,hI2,rfl⟩
 ·intro hc;(try simp only [hcs,ne_eq] at hc)
  obtain rfl:i=n:=by omega
  have hw:w=r:=by
   have h:=vx6 (l:=l.drop i) (r:=r) (n:=i) (by rw [← hI])
   rw [← hI] at h
   exact h
  subst hw
  have g3:decide (w.n=(i:Int))=true:=decide_eq_true h3
  have hX:=And.intro jf0 (And.intro g3 (kg2))
  (repeat refine ja0 ?_);refine jc0 ?_
  (repeat refine ja0 ?_);refine rggx [2] ?_
  (repeat refine ja0 ?_);refine ja3 ?_;refine retx ?_;(try dsimp only [outV,ja4])
  exact ja2 rfl
end Go.Proofs.YtegfnhibmhjdbaaGreatDoor
