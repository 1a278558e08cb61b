/- The laws of fold, walked: the hub, and the epoch. -/
import Derived.Test.YtegfnhibmhjdbaaGreatDoorAPD
import Derived.Test.YtegfnhibmhjdbaaGreatDoorAWZ
import Derived.Test.YtegfnhibmhjdbaaGreatDoorAPJ
set_option linter.unusedSimpArgs false
set_option linter.unusedVariables false
set_option maxRecDepth 10000
namespace Go.Proofs.YtegfnhibmhjdbaaGreatDoor
open Go.RowKit
section
variable {C:Cx}{ops:Array Oper}{K:St→Prop}{o:Oper}{rest:List Oper}{s:Nat→D}{h:List (Option Bk)}
theorem vs5 {ts:Array TypeId}{x y:Operand}{k k':IntKind}{a b:Int} (t:Nat) (hg:o.guard=none) (hd:o.dst=some t) (ht':Nat.blt t C.n=true) (ho:o.op = .call { callee:=.builtin .max,args:=#[x,y],argTypes:=ts }) (kk:DR C ops K rest ⟨upd s t (.v (.int k (mxI a b))),h⟩)
  (e:jb4 C ⟨s,h⟩ o=[.v (.int k a),.v (.int k' b)]:=by exact dsx):DR C ops K (o::rest) ⟨s,h⟩:=DR_c t hg hd ht' e (vh0 ho) kk
end
theorem vu2:∀(l:List Ev) (r:Rm) (n i:Nat),i+n<(runR r l n).2.1→evOk (l.getD i evz)=true
 | [],r,n,i,h=>by
  exfalso
  have h:i+n<n:=h
  omega
 | e::l,r,n,i,h=>by
  rw [vr3] at h
  by_cases hz:(nxtR r e).2=0
  ·rw [if_pos hz] at h
   cases i with
   | zero =>
    show evOk e=true
    unfold nxtR at hz
    by_cases hc:chkR r=0
    ·rw [if_neg (fun h=>h hc)] at hz
     by_cases ha:alwE r.s e=0
     ·exact ju2 (jn1 ha).2.1
     ·rw [if_pos ha] at hz;exact absurd hz ha
    ·rw [if_pos hc] at hz;cases hz
   | succ i=>exact vu2 l (nxtR r e).1 (n+1) i (by omega)
  ·rw [if_neg hz] at h
   have h:i+n<n:=h
   omega
theorem wa6 {l:List Ev}{k:Nat} (hk:k<l.length) (p:Int×Int):hubR p (l.take (k+1))=(if (l.getD k evz).k=1 then ((srv 2 (l.getD k evz).r).1,(hubR p (l.take k)).2) else if (l.getD k evz).k=8 then (((numO 63 (l.getD k evz).b).1:Int),(hubR p (l.take k)).2+1) else hubR p (l.take k)):=by
 rw [List.take_succ_eq_append_getElem hk,List.getD_eq_getElem?_getD,List.getElem?_eq_getElem hk,Option.getD_some]
 have:∀(L:List Ev) (q:Int×Int),hubR q (L++[l[k]])=(if l[k].k=1 then ((srv 2 l[k].r).1,(hubR q L).2) else if l[k].k=8 then (((numO 63 l[k].b).1:Int),(hubR q L).2+1) else hubR q L):=by
  intro L
  induction L with
  | nil=>intro q;rfl
  | cons e L ih=>intro q;exact ih _
 exact this _ _
theorem wb3 {a:Int} (h:0≤a):mxI a 0=a:=by
 unfold mxI
 split<;>omega
theorem wa5 (l:List Ev):0≤(hubR (0,0) l).2∧(hubR (0,0) l).2≤(l.length:Int):=by
 have:∀(l:List Ev) (p:Int×Int),p.2≤(hubR p l).2∧(hubR p l).2≤p.2+(l.length:Int):=by
  intro l
  induction l with
  | nil=>intro p;exact ⟨Int.le_refl _,by show p.2≤p.2+0;omega⟩
  | cons e l ih =>
   intro p
   have h:=ih (if e.k=1 then ((srv 2 e.r).1,p.2) else if e.k=8 then (((numO 63 e.b).1:Int),p.2+1) else p)
   rw [List.length_cons]
   show p.2≤(hubR _ l).2∧(hubR _ l).2≤_
   have h2:p.2≤(if e.k=1 then ((srv 2 e.r).1,p.2) else if e.k=8 then (((numO 63 e.b).1:Int),p.2+1) else p).2∧(if e.k=1 then ((srv 2 e.r).1,p.2) else if e.k=8 then (((numO 63 e.b).1:Int),p.2+1) else p).2≤p.2+1:=by
    split
    ·show p.2≤p.2∧p.2≤p.2+1;omega
    ·split
     ·show p.2≤p.2+1∧p.2+1≤p.2+1;omega
     ·omega
   omega
 have h:=this l (0,0)
 have h1:(0:Int)≤(hubR (0,0) l).2:=h.1
 have h2:(hubR (0,0) l).2≤0+(l.length:Int):=h.2
 omega
set_option maxHeartbeats 32000000 in
theorem vw0 (l:List Ev) (hl:∀i,evB (l.getD i evz)) (hn:l.length≤140737488351232):PC (ja6 Tryz.prog) 9 [.sl l evz evtD] (bD true):=by
 have lv:=vt2
 by_cases h1:100<l.length
 ·have d1:decide ((100:Int)<(l.length:Int))=true:=decide_eq_true (by omega)
  have hX:=and_true;refine pcx Tryz.func9 rfl Tryz.ntmps9 Tryz.results9 rfl ?_;intro w0 A
  have hX:=And.intro d1 (and_true)
  have hK:=And.intro (lv) trivial;(repeat refine ja0 ?_);refine rgx [0] ?_
  (repeat refine ja0 ?_);refine rgx [0,11] ?_
  (repeat refine ja0 ?_);refine iffx ?_
  (repeat refine ja0 ?_);refine ja1 ?_
  (repeat refine ja0 ?_);refine rgx [0,14] ?_
  (repeat refine ja0 ?_);refine iftx ?_
  (repeat refine ja0 ?_);refine rgx [2] ?_
  (repeat refine ja0 ?_);refine ja3 ?_;refine retx ?_;(try dsimp only [outV,ja4])
  exact ja2 rfl
 have d1:decide ((100:Int)<(l.length:Int))=false:=decide_eq_false (by omega)
 have k1:=vr6 l hl hn
 obtain ⟨_,h2,h3,h4⟩:=vt0 l rmz 0 vr8 (by omega)
 have ht:=vu2 l rmz 0
 unfold runD at k1
 rw [Nat.sub_zero] at h4
 generalize (runR rmz l 0).1=r at *
 generalize (runR rmz l 0).2.1=n at *
 generalize (runR rmz l 0).2.2=w at *
 have hnl:n≤l.length:=by omega
 have e1:mxI (n:Int) 0=(n:Int):=wb3 (Int.natCast_nonneg n)
 have e2:(if (l.length:Int)<(n:Int) then (l.length:Int) else (n:Int))=(n:Int):=if_neg (by omega)
 have hnt:(n:Int).toNat=n:=Int.toNat_natCast n
 have htl:(l.take n).length=n:=by rw [List.length_take];omega
 have hX:=and_true;refine pcx Tryz.func9 rfl Tryz.ntmps9 Tryz.results9 rfl ?_;intro w0 A
 have hX:=And.intro ji8 (And.intro d1 (And.intro e1 (And.intro e2 (And.intro hnt (htl)))))
 (repeat refine ja0 ?_);refine ja8 [0] ?_;intro w0 A S0 f0;(repeat ((with_reducible show DR _ _ _ (_::_) _);first|(refine cx _ (envG _ _ _ _ _ _) rfl rfl rfl rfl rfl ?_ (hc:=by first|exact lv|exact k1))|(refine vs5 _ rfl rfl rfl rfl ?_)|(refine sx ?_)));refine ja7 ?_;refine kl1 ?_
 (repeat refine ja0 ?_);refine ja8 [0,11] ?_;intro w0 A S0 f0;(repeat ((with_reducible show DR _ _ _ (_::_) _);first|(refine cx _ (envG _ _ _ _ _ _) rfl rfl rfl rfl rfl ?_ (hc:=by first|exact lv|exact k1))|(refine vs5 _ rfl rfl rfl rfl ?_)|(refine sx ?_)));refine ja7 ?_;refine kl1 ?_
 (repeat refine ja0 ?_);refine iffx ?_
 (repeat refine ja0 ?_);refine ja1 ?_
 (repeat refine ja0 ?_);refine ja8 [0,14] ?_;intro w0 A S0 f0;(repeat ((with_reducible show DR _ _ _ (_::_) _);first|(refine cx _ (envG _ _ _ _ _ _) rfl rfl rfl rfl rfl ?_ (hc:=by first|exact lv|exact k1))|(refine vs5 _ rfl rfl rfl rfl ?_)|(refine sx ?_)));refine ja7 ?_;refine kl1 ?_
 (repeat refine ja0 ?_);refine iffx ?_
 (repeat refine ja0 ?_);refine ja1 ?_
 (repeat refine ja0 ?_);refine ja8 [0,3,4] ?_;intro w0 A S0 f0;(repeat ((with_reducible show DR _ _ _ (_::_) _);first|(refine cx _ (envG _ _ _ _ _ _) rfl rfl rfl rfl rfl ?_ (hc:=by first|exact lv|exact k1))|(refine vs5 _ rfl rfl rfl rfl ?_)|(refine sx ?_)));refine ja7 ?_;refine kl1 ?_
 (repeat refine ja0 ?_);refine ja8 [0,3,4,6,7] ?_;intro w0 A S0 f0;(repeat ((with_reducible show DR _ _ _ (_::_) _);first|(refine cx _ (envG _ _ _ _ _ _) rfl rfl rfl rfl rfl ?_ (hc:=by first|exact lv|exact k1))|(refine vs5 _ rfl rfl rfl rfl ?_)|(refine sx ?_)));refine ja7 ?_;refine kl1 ?_
 (repeat refine ja0 ?_);refine ja8 [3,4,6,7,27,28,29] ?_;intro w0 A S0 f0;(repeat ((with_reducible show DR _ _ _ (_::_) _);first|(refine cx _ (envG _ _ _ _ _ _) rfl rfl rfl rfl rfl ?_ (hc:=by first|exact lv|exact k1))|(refine vs5 _ rfl rfl rfl rfl ?_)|(refine sx ?_)));refine ja7 ?_;refine kl1 ?_
 (repeat refine ja0 ?_);refine ja5 ?_
 (repeat refine ja0 ?_)
 have hB:∀j,evB ((l.take n).getD j evz)∧(j<n→evOk ((l.take n).getD j evz)=true):=fun j=>by
  by_cases hj:j<n
  ·rw [List.getD_eq_getElem?_getD,List.getElem?_take_of_lt hj,← List.getD_eq_getElem?_getD];exact ⟨hl j,fun _=>ht j (by omega)⟩
  ·rw [List.getD_eq_getElem?_getD,List.getElem?_eq_none (by omega)];exact ⟨by unfold evB;decide,fun h=>absurd h hj⟩
 generalize l.take n=L at *
 have hh:r.h=(hubR (0,0) L).1:=congrArg Prod.fst h4
 have hhe:r.e=(hubR (0,0) L).2:=congrArg Prod.snd h4
 refine jd4 (fun m _ st=>∃j,j+m=n∧st=mk [(3,.ptr 0 0),(4,iD (n:Int)),(6,iD (hubR (0,0) (L.take j)).1),(7,iD (hubR (0,0) (L.take j)).2),(27,.sl L evz evtD),(28,iD (n:Int)),(29,iD (j:Int))] [some (.one (rmD r))]) n ⟨_,WeakX.refl _,0,by omega,rfl⟩ ?_
 rintro m _ _ ⟨j,hj,rfl⟩
 have hle:=wa5 (L.take j)
 have hle2:(L.take j).length≤100:=by rw [List.length_take];omega
 have hX:=And.intro ji8 (htl)
 (repeat refine ja0 ?_);refine rgx [3,4,6,7,27,28,29,30] ?_
 (repeat refine ja0 ?_);refine ifx ?_ ?_
 ·intro hc;(try simp only [hcs,ne_eq] at hc)
  have hjn:j<n:=by omega
  have hup:=wa6 (l:=L) (k:=j) (by omega) (0,0)
  have hBj:=hB j
  have hpe:jb0 (evtD (L.getD j evz))=true:=rfl
  have hX:=And.intro ji8 (And.intro htl (hpe))
  (repeat refine ja0 ?_);refine ja1 ?_
  (repeat refine ja0 ?_);refine ja5 ?_
  (repeat refine ja0 ?_);refine rgx [3,4,6,7,9,27,28,29] ?_
  generalize L.getD j evz=e at *
  have ho:=jk3 (hBj.2 hjn)
  have kr:=kw1 e.r hBj.1.1
  have kn:=jt5 e.b (by have:=ho.2.2.2.2;omega)
  unfold osD at kr
  unfold cuD at kn
  generalize (srv 2 e.r).1=a at *
  generalize (srv 2 e.r).2=a2 at *
  generalize (numO 63 e.b).1=b at *
  generalize (numO 63 e.b).2=b2 at *
  have kr:PC (ja6 Tryz.prog) 37 [.v (.string (B e.r))] (.tup (.cons (.v (.int .i64 a)) (.cons (.v (.bool a2)) .nil))):=kr
  have kn:PC (ja6 Tryz.prog) 16 [.v (.string (B e.b))] (.tup (.cons (.v (.int .i64 (b:Int))) (.cons (.v (.bool b2)) .nil))):=kn
  generalize hubR (0,0) (L.take j)=q at *
  by_cases c1:e.k=1
  ·have d2:decide ((e.k:Int)=1)=true:=decide_eq_true (by omega)
   have d3:decide ((e.k:Int)=8)=false:=decide_eq_false (by omega)
   rw [if_pos c1] at hup
   have hX:=And.intro ji8 (And.intro ja9 (And.intro d2 (d3)))
   have hK:=And.intro (kr) trivial;(repeat refine ja0 ?_);refine rgx [3,4,6,7,9,27,28,29,35] ?_
   (repeat refine ja0 ?_);refine iftx ?_
   (repeat refine ja0 ?_);refine rgx [3,4,6,7,9,27,28,29] ?_
   (repeat refine ja0 ?_);refine rgx [3,4,6,7,9,27,28,29,44] ?_
   (repeat refine ja0 ?_);refine iffx ?_
   (repeat refine ja0 ?_);refine ja1 ?_
   (repeat refine ja0 ?_);refine rgx [3,4,6,7,27,28,29] ?_
   exact ⟨_,m-1,WeakX.take 1 rfl rfl rfl,by omega,j+1,by omega,by rw [hup];rfl⟩
  have d2:decide ((e.k:Int)=1)=false:=decide_eq_false (by omega)
  rw [if_neg c1] at hup
  by_cases c8:e.k=8
  ·have d3:decide ((e.k:Int)=8)=true:=decide_eq_true (by omega)
   rw [if_pos c8] at hup
   have hX:=And.intro ji8 (And.intro ja9 (And.intro d2 (d3)))
   have hK:=And.intro (kn) trivial;(repeat refine ja0 ?_);refine rgx [3,4,6,7,9,27,28,29,35] ?_
   (repeat refine ja0 ?_);refine iffx ?_
   (repeat refine ja0 ?_);refine ja1 ?_
   (repeat refine ja0 ?_);refine rgx [3,4,6,7,9,27,28,29,44] ?_
   (repeat refine ja0 ?_);refine iftx ?_
   (repeat refine ja0 ?_);refine rgx [3,4,6,7,27,28,29] ?_
   (repeat refine ja0 ?_);refine rgx [3,4,6,7,27,28,29] ?_
   (repeat refine ja0 ?_);refine rgx [3,4,6,7,27,28,29] ?_
   exact ⟨_,m-1,WeakX.take 1 rfl rfl rfl,by omega,j+1,by omega,by rw [hup];rfl⟩
  ·have d3:decide ((e.k:Int)=8)=false:=decide_eq_false (by omega)
   rw [if_neg c8] at hup
   have hX:=And.intro ji8 (And.intro ja9 (And.intro d2 (d3)))
   (repeat refine ja0 ?_);refine rgx [3,4,6,7,9,27,28,29,35] ?_
   (repeat refine ja0 ?_);refine iffx ?_
   (repeat refine ja0 ?_);refine ja1 ?_
   (repeat refine ja0 ?_);refine rgx [3,4,6,7,9,27,28,29,44] ?_
   (repeat refine ja0 ?_);refine iffx ?_
   (repeat refine ja0 ?_);refine ja1 ?_
   (repeat refine ja0 ?_);refine rgx [3,4,6,7,27,28,29] ?_
   exact ⟨_,m-1,WeakX.take 1 rfl rfl rfl,by omega,j+1,by omega,by rw [hup];rfl⟩
 ·intro hc;(try simp only [hcs,ne_eq] at hc)
  obtain rfl:j=n:=by omega
  rw [show L.take j=L from List.take_of_length_le (by omega)]
  generalize hubR (0,0) L=q at *
  have g1:decide (r.h=q.1)=true:=decide_eq_true hh
  have g2:decide (r.e=q.2)=true:=decide_eq_true hhe
  have g3:decide (r.n=(j:Int))=true:=decide_eq_true h3
  have hX:=And.intro jf0 (And.intro g1 (And.intro g2 (g3)))
  (repeat refine ja0 ?_);refine jc0 ?_
  (repeat refine ja0 ?_);refine rggx [2] ?_
  (repeat refine ja0 ?_);refine ja3 ?_;refine retx ?_;(try dsimp only [outV,ja4])
  exact ja2 rfl
end Go.Proofs.YtegfnhibmhjdbaaGreatDoor
