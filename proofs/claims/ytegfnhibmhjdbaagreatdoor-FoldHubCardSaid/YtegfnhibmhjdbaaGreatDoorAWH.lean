/- Auth: the desk's: what one who has joined does; a member's event (package auth). Auth: the desk's: a member's event (package auth). -/
import Derived.Test.YtegfnhibmhjdbaaGreatDoorAPD
import Derived.Test.YtegfnhibmhjdbaaGreatDoorAUG
import Derived.Test.YtegfnhibmhjdbaaGreatDoorAQK
set_option linter.unusedSimpArgs false
set_option linter.unusedVariables false
set_option maxRecDepth 10000
namespace Go.Proofs.YtegfnhibmhjdbaaGreatDoor
open Go.RowKit
set_option maxHeartbeats 8000000 in
theorem qs1 (d:Dk) (hd:dkB d):PC (ja6 Tryz.prog) 104 [.ip (dkD d)] (iD (if frmE d.e d.l (decide ((parL d.e.b).2=0))=0 then chgE d.l (parL d.e.b).1 d.e.s else frmE d.e d.l (decide ((parL d.e.b).2=0)))):=by
 have hb:=(jk3 hd.1).2.2.2.2
 have hl:=jw2 hd.2.2.2
 have kp:=kv5 d.e.b (by omega)
 have kf:=js2 d (decide ((parL d.e.b).2=0)) hl.2
 unfold lvR at kp
 by_cases hp:(parL d.e.b).2=0
 ·have hy:=jw2 (kl3 hp).1
  have kc:=qn2 d.l (parL d.e.b).1 d.e.s hl.1 hy.1 hl.2 hy.2
  rw [decide_eq_true hp] at kf ⊢
  rw [hp] at kp
  generalize (parL d.e.b).1=y at *
  have kp:PC (ja6 Tryz.prog) 43 [.v (.string (B d.e.b))] (.tup (.cons (lvD y) (.cons (.v (.int .i64 0)) .nil))):=kp
  have kf:PC (ja6 Tryz.prog) 105 [.ip (dkD d),.v (.bool true)] (iD (frmE d.e d.l true)):=kf
  by_cases h0:frmE d.e d.l true=0
  ·rw [if_pos h0]
   rw [h0] at kf
   generalize chgE d.l y d.e.s=w at *
   have hz:decide ((0:Int)=0)=true:=rfl
   have hX:=and_true;refine pcx Tryz.func104 rfl Tryz.ntmps104 Tryz.results104 rfl ?_;intro w0 A
   have hX:=And.intro jc8 (And.intro ja9 (And.intro jg3 (hz)))
   have hK:=And.intro (kp) (And.intro (kf) (And.intro (kc) trivial));(repeat refine ja0 ?_);refine rgx [0] ?_
   (repeat refine ja0 ?_);refine rgx [0,3,4] ?_
   (repeat refine ja0 ?_);refine rgx [0,3,5] ?_
   (repeat refine ja0 ?_);refine rgx [0,3,5,20] ?_
   (repeat refine ja0 ?_);refine iffx ?_
   (repeat refine ja0 ?_);refine ja1 ?_
   (repeat refine ja0 ?_);refine rqx [2] ?_
   (repeat refine ja0 ?_);refine ja3 ?_;refine retx ?_;(try dsimp only [outV,ja4])
   exact ja2 rfl
  ·rw [if_neg h0]
   have d1:decide (frmE d.e d.l true=0)=false:=decide_eq_false h0
   generalize frmE d.e d.l true=w at *
   have hz:decide ((0:Int)=0)=true:=rfl
   have hX:=and_true;refine pcx Tryz.func104 rfl Tryz.ntmps104 Tryz.results104 rfl ?_;intro w0 A
   have hX:=And.intro jc8 (And.intro ja9 (And.intro jg3 (And.intro hz (d1))))
   have hK:=And.intro (kp) (And.intro (kf) trivial);(repeat refine ja0 ?_);refine rgx [0] ?_
   (repeat refine ja0 ?_);refine rgx [0,3,4] ?_
   (repeat refine ja0 ?_);refine rgx [0,3,5] ?_
   (repeat refine ja0 ?_);refine rgx [0,3,5,20] ?_
   (repeat refine ja0 ?_);refine iftx ?_
   (repeat refine ja0 ?_);refine rgx [2] ?_
   (repeat refine ja0 ?_);refine ja3 ?_;refine retx ?_;(try dsimp only [outV,ja4])
   exact ja2 rfl
 ·have d1:=decide_eq_false hp
  rw [d1] at kf ⊢
  rw [kg7] at kf ⊢
  rw [if_neg (by decide)]
  generalize (parL d.e.b).1=y at *
  generalize (parL d.e.b).2=w at *
  have kp:PC (ja6 Tryz.prog) 43 [.v (.string (B d.e.b))] (.tup (.cons (lvD y) (.cons (.v (.int .i64 w)) .nil))):=kp
  have kf:PC (ja6 Tryz.prog) 105 [.ip (dkD d),.v (.bool false)] (iD 2):=kf
  have hX:=and_true;refine pcx Tryz.func104 rfl Tryz.ntmps104 Tryz.results104 rfl ?_;intro w0 A
  have hX:=And.intro jc8 (And.intro ja9 (And.intro jg3 (d1)))
  have hK:=And.intro (kp) (And.intro (kf) trivial);(repeat refine ja0 ?_);refine rgx [0] ?_
  (repeat refine ja0 ?_);refine rgx [0,3,4] ?_
  (repeat refine ja0 ?_);refine rgx [0,3,5] ?_
  (repeat refine ja0 ?_);refine rgx [0,3,5,20] ?_
  (repeat refine ja0 ?_);refine iftx ?_
  (repeat refine ja0 ?_);refine rgx [2] ?_
  (repeat refine ja0 ?_);refine ja3 ?_;refine retx ?_;(try dsimp only [outV,ja4])
  exact ja2 rfl
set_option maxHeartbeats 16000000 in
theorem va4 (d:Dk) (hd:dkB d):PC (ja6 Tryz.prog) 59 [.ip (dkD d)] (iD (doeE d.e d.l)):=by
 have hb:=(jk3 hd.1).2.2.2.2
 have hl:=jw2 hd.2.2.2
 unfold doeE
 by_cases h3:d.e.k=3
 ·have k:=qs1 d hd
  rw [if_pos h3]
  generalize (if frmE d.e d.l (decide ((parL d.e.b).2=0))=0 then chgE d.l (parL d.e.b).1 d.e.s else frmE d.e d.l (decide ((parL d.e.b).2=0)))=w at *
  have d3:decide ((d.e.k:Int)=3)=true:=decide_eq_true (by omega)
  have hX:=and_true;refine pcx Tryz.func59 rfl Tryz.ntmps59 Tryz.results59 rfl ?_;intro w0 A
  have hX:=And.intro jg3 (And.intro ja9 (d3))
  have hK:=And.intro (k) trivial;(repeat refine ja0 ?_);refine rgx [0] ?_
  (repeat refine ja0 ?_);refine rgx [0,9] ?_
  (repeat refine ja0 ?_);refine ja5 ?_
  (repeat refine ja0 ?_);refine rgx [0,9,10] ?_
  (repeat refine ja0 ?_);refine iftx ?_
  (repeat refine ja0 ?_);refine rgx [2] ?_
  (repeat refine ja0 ?_);refine ja3 ?_;refine retx ?_;(try dsimp only [outV,ja4])
  exact ja2 rfl
 have d3:decide ((d.e.k:Int)=3)=false:=decide_eq_false (by omega)
 rw [if_neg h3]
 by_cases h4:d.e.k=4
 ·have k1:=kw3 d.e.b
  have k:=js2 d (rulM d.e.b) hl.2
  rw [if_pos h4]
  generalize rulM d.e.b=b at *
  generalize frmE d.e d.l b=w at *
  have d4:decide ((d.e.k:Int)=4)=true:=decide_eq_true (by omega)
  have hX:=and_true;refine pcx Tryz.func59 rfl Tryz.ntmps59 Tryz.results59 rfl ?_;intro w0 A
  have hX:=And.intro jg3 (And.intro ja9 (And.intro d3 (d4)))
  have hK:=And.intro (k) (And.intro (k1) trivial);(repeat refine ja0 ?_);refine rgx [0] ?_
  (repeat refine ja0 ?_);refine rgx [0,9] ?_
  (repeat refine ja0 ?_);refine ja5 ?_
  (repeat refine ja0 ?_);refine rgx [0,9,10] ?_
  (repeat refine ja0 ?_);refine iffx ?_
  (repeat refine ja0 ?_);refine rgx [0,9,14] ?_
  (repeat refine ja0 ?_);refine iftx ?_
  (repeat refine ja0 ?_);refine rgx [2] ?_
  (repeat refine ja0 ?_);refine ja3 ?_;refine retx ?_;(try dsimp only [outV,ja4])
  exact ja2 rfl
 have d4:decide ((d.e.k:Int)=4)=false:=decide_eq_false (by omega)
 rw [if_neg h4]
 by_cases h8:d.e.k=8
 ·have k1:=jt5 d.e.b (by omega)
  have k:=js2 d (numO 63 d.e.b).2 hl.2
  rw [if_pos h8]
  unfold cuD at k1
  generalize (numO 63 d.e.b).1=n at *
  generalize (numO 63 d.e.b).2=b at *
  generalize frmE d.e d.l b=w at *
  have k1:PC (ja6 Tryz.prog) 16 [.v (.string (B d.e.b))] (.tup (.cons (.v (.int .i64 (n:Int))) (.cons (.v (.bool b)) .nil))):=k1
  have d8:decide ((d.e.k:Int)=8)=true:=decide_eq_true (by omega)
  have hX:=and_true;refine pcx Tryz.func59 rfl Tryz.ntmps59 Tryz.results59 rfl ?_;intro w0 A
  have hX:=And.intro jg3 (And.intro ja9 (And.intro d3 (And.intro d4 (d8))))
  have hK:=And.intro (k) (And.intro (k1) trivial);(repeat refine ja0 ?_);refine rgx [0] ?_
  (repeat refine ja0 ?_);refine rgx [0,9] ?_
  (repeat refine ja0 ?_);refine ja5 ?_
  (repeat refine ja0 ?_);refine rgx [0,9,10] ?_
  (repeat refine ja0 ?_);refine iffx ?_
  (repeat refine ja0 ?_);refine rgx [0,9,14] ?_
  (repeat refine ja0 ?_);refine iffx ?_
  (repeat refine ja0 ?_);refine rgx [0,9,24] ?_
  (repeat refine ja0 ?_);refine iftx ?_
  (repeat refine ja0 ?_);refine rgx [0,4] ?_
  (repeat refine ja0 ?_);refine rgx [2] ?_
  (repeat refine ja0 ?_);refine ja3 ?_;refine retx ?_;(try dsimp only [outV,ja4])
  exact ja2 rfl
 have d8:decide ((d.e.k:Int)=8)=false:=decide_eq_false (by omega)
 rw [if_neg h8]
 by_cases h5:d.e.k=5
 ·have k:PC (ja6 Tryz.prog) 105 [.ip (dkD d),.v (.bool true)] (iD (frmE d.e d.l true)):=js2 d true hl.2
  rw [if_pos h5]
  generalize frmE d.e d.l true=w at *
  have d5:decide ((d.e.k:Int)=5)=true:=decide_eq_true (by omega)
  have hX:=and_true;refine pcx Tryz.func59 rfl Tryz.ntmps59 Tryz.results59 rfl ?_;intro w0 A
  have hX:=And.intro jg3 (And.intro ja9 (And.intro d3 (And.intro d4 (And.intro d8 (d5)))))
  have hK:=And.intro (k) trivial;(repeat refine ja0 ?_);refine rgx [0] ?_
  (repeat refine ja0 ?_);refine rgx [0,9] ?_
  (repeat refine ja0 ?_);refine ja5 ?_
  (repeat refine ja0 ?_);refine rgx [0,9,10] ?_
  (repeat refine ja0 ?_);refine iffx ?_
  (repeat refine ja0 ?_);refine rgx [0,9,14] ?_
  (repeat refine ja0 ?_);refine iffx ?_
  (repeat refine ja0 ?_);refine rgx [0,9,24] ?_
  (repeat refine ja0 ?_);refine iffx ?_
  (repeat refine ja0 ?_);refine rgx [0,9,38] ?_
  (repeat refine ja0 ?_);refine iftx ?_
  (repeat refine ja0 ?_);refine rgx [2] ?_
  (repeat refine ja0 ?_);refine ja3 ?_;refine retx ?_;(try dsimp only [outV,ja4])
  exact ja2 rfl
 have d5:decide ((d.e.k:Int)=5)=false:=decide_eq_false (by omega)
 rw [if_neg h5]
 by_cases h7:d.e.k=7
 ·have k:=km9 d d.l.r hl.2
  rw [if_pos h7]
  generalize enoE d.e d.l d.l.r=w at *
  have d7:decide ((d.e.k:Int)=7)=true:=decide_eq_true (by omega)
  have hX:=and_true;refine pcx Tryz.func59 rfl Tryz.ntmps59 Tryz.results59 rfl ?_;intro w0 A
  have hX:=And.intro jg3 (And.intro ja9 (And.intro jb7 (And.intro d3 (And.intro d4 (And.intro d8 (And.intro d5 (d7)))))))
  have hK:=And.intro (k) trivial;(repeat refine ja0 ?_);refine rgx [0] ?_
  (repeat refine ja0 ?_);refine rgx [0,9] ?_
  (repeat refine ja0 ?_);refine ja5 ?_
  (repeat refine ja0 ?_);refine rgx [0,9,10] ?_
  (repeat refine ja0 ?_);refine iffx ?_
  (repeat refine ja0 ?_);refine rgx [0,9,14] ?_
  (repeat refine ja0 ?_);refine iffx ?_
  (repeat refine ja0 ?_);refine rgx [0,9,24] ?_
  (repeat refine ja0 ?_);refine iffx ?_
  (repeat refine ja0 ?_);refine rgx [0,9,38] ?_
  (repeat refine ja0 ?_);refine iffx ?_
  (repeat refine ja0 ?_);refine rgx [0,42] ?_
  (repeat refine ja0 ?_);refine iftx ?_
  (repeat refine ja0 ?_);refine rgx [2] ?_
  (repeat refine ja0 ?_);refine ja3 ?_;refine retx ?_;(try dsimp only [outV,ja4])
  exact ja2 rfl
 have d7:decide ((d.e.k:Int)=7)=false:=decide_eq_false (by omega)
 rw [if_neg h7]
 have hX:=and_true;refine pcx Tryz.func59 rfl Tryz.ntmps59 Tryz.results59 rfl ?_;intro w0 A
 have hX:=And.intro jg3 (And.intro ja9 (And.intro d3 (And.intro d4 (And.intro d8 (And.intro d5 (d7))))))
 (repeat refine ja0 ?_);refine rgx [0] ?_
 (repeat refine ja0 ?_);refine rgx [0,9] ?_
 (repeat refine ja0 ?_);refine ja5 ?_
 (repeat refine ja0 ?_);refine rgx [0,9,10] ?_
 (repeat refine ja0 ?_);refine iffx ?_
 (repeat refine ja0 ?_);refine rgx [0,9,14] ?_
 (repeat refine ja0 ?_);refine iffx ?_
 (repeat refine ja0 ?_);refine rgx [0,9,24] ?_
 (repeat refine ja0 ?_);refine iffx ?_
 (repeat refine ja0 ?_);refine rgx [0,9,38] ?_
 (repeat refine ja0 ?_);refine iffx ?_
 (repeat refine ja0 ?_);refine rgx [0,42] ?_
 (repeat refine ja0 ?_);refine iffx ?_
 (repeat refine ja0 ?_);refine ja1 ?_
 (repeat refine ja0 ?_);refine rgx [2] ?_
 (repeat refine ja0 ?_);refine ja3 ?_;refine retx ?_;(try dsimp only [outV,ja4])
 exact ja2 rfl
set_option maxHeartbeats 32000000 in
theorem ql1 (d:Dk) (hd:dkB d):PC (ja6 Tryz.prog) 57 [.ip (dkD d)] (iD (memE d.s d.e d.c d.l d.r)):=by
 have hl:=jw2 hd.2.2.2
 have hn:d.s.length≤140737488351232:=by have:=(jg6 hd.2.2.1).1;omega
 have k0:PC (ja6 Tryz.prog) 101 [.v (.string (B d.e.b))] (bD (isM d.e.b)):=kp2 d.e.b
 have k1:=qg9 d d.e.s hn
 have k2:=qg9 d d.e.y hn
 have k3:=ks6 d d.e.s hl.2
 have k4:=ks6 d d.e.y hl.2
 have k5:=qh4 (kk9 (movE d.s d.e d.l d.r))
 unfold memE
 cases hm:isM d.e.b
 ·rw [hm] at k0
  have hX:=and_true;refine pcx Tryz.func57 rfl Tryz.ntmps57 Tryz.results57 rfl ?_;intro w0 A
  have hX:=And.intro jg3 (ja9)
  have hK:=And.intro (k0) trivial;(repeat refine ja0 ?_);refine rgx [0] ?_
  (repeat refine ja0 ?_);refine rqx [0,3] ?_
  (repeat refine ja0 ?_);refine ja5 ?_
  (repeat refine ja0 ?_);refine rgx [0,3,16] ?_
  (repeat refine ja0 ?_);refine iftx ?_
  (repeat refine ja0 ?_);refine rgx [2] ?_
  (repeat refine ja0 ?_);refine ja3 ?_;refine retx ?_;(try dsimp only [outV,ja4])
  exact ja2 rfl
 rw [hm] at k0
 rw [if_neg (by decide)]
 by_cases h1:d.s.length=1
 ·have d1:decide ((d.s.length:Int)=1)=true:=decide_eq_true (by omega)
  by_cases hsy:d.e.s=d.e.y
  ·have gsy:=dsT hsy
   have k6:=qm4 (kk9 (movE d.s d.e d.l d.r)) (decide_eq_true hsy)
   by_cases hsc:d.e.s=d.c.s
   ·have gsc:=dsT hsc
    by_cases hj:d.e.b=joT
    ·have gj:=dsT (b:=[106,111,105,110]) hj
     rw [if_pos ⟨h1,hsy,hsc,hj⟩]
     have hX:=and_true;refine pcx Tryz.func57 rfl Tryz.ntmps57 Tryz.results57 rfl ?_;intro w0 A
     have hX:=And.intro jg3 (And.intro ja9 (And.intro jd3 (And.intro d1 (And.intro gsy (And.intro gsc (gj))))))
     have hK:=And.intro (k0) trivial;(repeat refine ja0 ?_);refine rgx [0] ?_
     (repeat refine ja0 ?_);refine rqx [0,3] ?_
     (repeat refine ja0 ?_);refine ja5 ?_
     (repeat refine ja0 ?_);refine rgx [0,3,16] ?_
     (repeat refine ja0 ?_);refine iffx ?_
     (repeat refine ja0 ?_);refine rqgx [0,3,24] ?_
     (repeat refine ja0 ?_);refine iftx ?_
     (repeat refine ja0 ?_);refine rgx [2] ?_
     (repeat refine ja0 ?_);refine ja3 ?_;refine retx ?_;(try dsimp only [outV,ja4])
     exact ja2 rfl
    ·have gj:=dsF (b:=[106,111,105,110]) hj
     rw [if_neg (fun h=>hj h.2.2.2)]
     have hX:=and_true;refine pcx Tryz.func57 rfl Tryz.ntmps57 Tryz.results57 rfl ?_;intro w0 A
     have hX:=And.intro jg3 (And.intro ja9 (And.intro jd3 (And.intro jb7 (And.intro d1 (And.intro gsy (And.intro gsc (gj)))))))
     (repeat refine ja0 ?_);refine ja8 [0] ?_;intro w0 A S0 f0;(repeat ((with_reducible show DR _ _ _ (_::_) _);first|(refine cx _ (envG _ _ _ _ _ _) rfl rfl rfl rfl rfl ?_ (hc:=by first|exact k0|exact k1|exact k2|exact k3|exact k4|exact k6 _ _ _ _))  | (refine sx ?_)));refine ja7 ?_;refine kl1 ?_
     (repeat refine ja0 ?_);refine jd6 [0,3] (by kernel_rfl) ?_;intro w0 A S0 f0;(repeat ((with_reducible show DRq _ _ _ (_::_) _);first|(refine cxq _ (envG _ _ _ _ _ _) rfl rfl rfl rfl rfl ?_ (hc:=by first|exact k0|exact k1|exact k2|exact k3|exact k4|exact k6 _ _ _ _))|(refine sxq ?_)));refine jc9 ?_;refine kl1 ?_
     (repeat refine ja0 ?_);refine ja5 ?_
     (repeat refine ja0 ?_);refine ja8 [0,3,16] ?_;intro w0 A S0 f0;(repeat ((with_reducible show DR _ _ _ (_::_) _);first|(refine cx _ (envG _ _ _ _ _ _) rfl rfl rfl rfl rfl ?_ (hc:=by first|exact k0|exact k1|exact k2|exact k3|exact k4|exact k6 _ _ _ _))  | (refine sx ?_)));refine ja7 ?_;refine kl1 ?_
     (repeat refine ja0 ?_);refine iffx ?_
     (repeat refine ja0 ?_);refine jd6 [0,3,24] (by kernel_rfl) ?_;intro w0 A S0 f0;(repeat (first|(refine gtxq rfl rfl ?_)|(refine gxq ?_)|((with_reducible show DRq _ _ _ (_::_) _);first|(refine cxq _ (envG _ _ _ _ _ _) rfl rfl rfl rfl rfl ?_ (hc:=by first|exact k0|exact k1|exact k2|exact k3|exact k4|exact k6 _ _ _ _))|(refine sxq ?_))));refine jc9 ?_;refine kl1 ?_
     (repeat refine ja0 ?_);refine iffx ?_
     (repeat refine ja0 ?_);refine ja1 ?_
     (repeat refine ja0 ?_);refine ja8 [0,3,4] ?_;intro w0 A S0 f0;(repeat ((with_reducible show DR _ _ _ (_::_) _);first|(refine cx _ (envG _ _ _ _ _ _) rfl rfl rfl rfl rfl ?_ (hc:=by first|exact k0|exact k1|exact k2|exact k3|exact k4|exact k6 _ _ _ _))  | (refine sx ?_)));refine ja7 ?_;refine kl1 ?_
     (repeat refine ja0 ?_);refine jd6 [2] (by kernel_rfl) ?_;intro w0 A S0 f0;(repeat ((with_reducible show DRq _ _ _ (_::_) _);first|(refine cxq _ (envG _ _ _ _ _ _) rfl rfl rfl rfl rfl ?_ (hc:=by first|exact k0|exact k1|exact k2|exact k3|exact k4|exact k6 _ _ _ _))|(refine sxq ?_)));refine jc9 ?_;refine kl1 ?_
     (repeat refine ja0 ?_);refine ja3 ?_;refine retx ?_;(try dsimp only [outV,ja4])
     exact ja2 rfl
   ·have gsc:=dsF hsc
    rw [if_neg (fun h=>hsc h.2.2.1)]
    have hX:=and_true;refine pcx Tryz.func57 rfl Tryz.ntmps57 Tryz.results57 rfl ?_;intro w0 A
    have hX:=And.intro jg3 (And.intro ja9 (And.intro jd3 (And.intro jb7 (And.intro d1 (And.intro gsy (gsc))))))
    (repeat refine ja0 ?_);refine ja8 [0] ?_;intro w0 A S0 f0;(repeat ((with_reducible show DR _ _ _ (_::_) _);first|(refine cx _ (envG _ _ _ _ _ _) rfl rfl rfl rfl rfl ?_ (hc:=by first|exact k0|exact k1|exact k2|exact k3|exact k4|exact k6 _ _ _ _))  | (refine sx ?_)));refine ja7 ?_;refine kl1 ?_
    (repeat refine ja0 ?_);refine jd6 [0,3] (by kernel_rfl) ?_;intro w0 A S0 f0;(repeat ((with_reducible show DRq _ _ _ (_::_) _);first|(refine cxq _ (envG _ _ _ _ _ _) rfl rfl rfl rfl rfl ?_ (hc:=by first|exact k0|exact k1|exact k2|exact k3|exact k4|exact k6 _ _ _ _))|(refine sxq ?_)));refine jc9 ?_;refine kl1 ?_
    (repeat refine ja0 ?_);refine ja5 ?_
    (repeat refine ja0 ?_);refine ja8 [0,3,16] ?_;intro w0 A S0 f0;(repeat ((with_reducible show DR _ _ _ (_::_) _);first|(refine cx _ (envG _ _ _ _ _ _) rfl rfl rfl rfl rfl ?_ (hc:=by first|exact k0|exact k1|exact k2|exact k3|exact k4|exact k6 _ _ _ _))  | (refine sx ?_)));refine ja7 ?_;refine kl1 ?_
    (repeat refine ja0 ?_);refine iffx ?_
    (repeat refine ja0 ?_);refine jd6 [0,3,24] (by kernel_rfl) ?_;intro w0 A S0 f0;(repeat (first|(refine gtxq rfl rfl ?_)|(refine gxq ?_)|((with_reducible show DRq _ _ _ (_::_) _);first|(refine cxq _ (envG _ _ _ _ _ _) rfl rfl rfl rfl rfl ?_ (hc:=by first|exact k0|exact k1|exact k2|exact k3|exact k4|exact k6 _ _ _ _))|(refine sxq ?_))));refine jc9 ?_;refine kl1 ?_
    (repeat refine ja0 ?_);refine iffx ?_
    (repeat refine ja0 ?_);refine ja1 ?_
    (repeat refine ja0 ?_);refine ja8 [0,3,4] ?_;intro w0 A S0 f0;(repeat ((with_reducible show DR _ _ _ (_::_) _);first|(refine cx _ (envG _ _ _ _ _ _) rfl rfl rfl rfl rfl ?_ (hc:=by first|exact k0|exact k1|exact k2|exact k3|exact k4|exact k6 _ _ _ _))  | (refine sx ?_)));refine ja7 ?_;refine kl1 ?_
    (repeat refine ja0 ?_);refine jd6 [2] (by kernel_rfl) ?_;intro w0 A S0 f0;(repeat ((with_reducible show DRq _ _ _ (_::_) _);first|(refine cxq _ (envG _ _ _ _ _ _) rfl rfl rfl rfl rfl ?_ (hc:=by first|exact k0|exact k1|exact k2|exact k3|exact k4|exact k6 _ _ _ _))|(refine sxq ?_)));refine jc9 ?_;refine kl1 ?_
    (repeat refine ja0 ?_);refine ja3 ?_;refine retx ?_;(try dsimp only [outV,ja4])
    exact ja2 rfl
  ·have gsy:=dsF hsy
   have k6:=qm4 (kk9 (movE d.s d.e d.l d.r)) (decide_eq_false hsy)
   rw [if_neg (fun h=>hsy h.2.1)]
   have hX:=and_true;refine pcx Tryz.func57 rfl Tryz.ntmps57 Tryz.results57 rfl ?_;intro w0 A
   have hX:=And.intro jg3 (And.intro ja9 (And.intro jd3 (And.intro jb7 (And.intro d1 (gsy)))))
   (repeat refine ja0 ?_);refine ja8 [0] ?_;intro w0 A S0 f0;(repeat ((with_reducible show DR _ _ _ (_::_) _);first|(refine cx _ (envG _ _ _ _ _ _) rfl rfl rfl rfl rfl ?_ (hc:=by first|exact k0|exact k1|exact k2|exact k3|exact k4|exact k6 _ _ _ _))  | (refine sx ?_)));refine ja7 ?_;refine kl1 ?_
   (repeat refine ja0 ?_);refine jd6 [0,3] (by kernel_rfl) ?_;intro w0 A S0 f0;(repeat ((with_reducible show DRq _ _ _ (_::_) _);first|(refine cxq _ (envG _ _ _ _ _ _) rfl rfl rfl rfl rfl ?_ (hc:=by first|exact k0|exact k1|exact k2|exact k3|exact k4|exact k6 _ _ _ _))|(refine sxq ?_)));refine jc9 ?_;refine kl1 ?_
   (repeat refine ja0 ?_);refine ja5 ?_
   (repeat refine ja0 ?_);refine ja8 [0,3,16] ?_;intro w0 A S0 f0;(repeat ((with_reducible show DR _ _ _ (_::_) _);first|(refine cx _ (envG _ _ _ _ _ _) rfl rfl rfl rfl rfl ?_ (hc:=by first|exact k0|exact k1|exact k2|exact k3|exact k4|exact k6 _ _ _ _))  | (refine sx ?_)));refine ja7 ?_;refine kl1 ?_
   (repeat refine ja0 ?_);refine iffx ?_
   (repeat refine ja0 ?_);refine jd6 [0,3,24] (by kernel_rfl) ?_;intro w0 A S0 f0;(repeat (first|(refine gtxq rfl rfl ?_)|(refine gxq ?_)|((with_reducible show DRq _ _ _ (_::_) _);first|(refine cxq _ (envG _ _ _ _ _ _) rfl rfl rfl rfl rfl ?_ (hc:=by first|exact k0|exact k1|exact k2|exact k3|exact k4|exact k6 _ _ _ _))|(refine sxq ?_))));refine jc9 ?_;refine kl1 ?_
   (repeat refine ja0 ?_);refine iffx ?_
   (repeat refine ja0 ?_);refine ja1 ?_
   (repeat refine ja0 ?_);refine ja8 [0,3,4] ?_;intro w0 A S0 f0;(repeat ((with_reducible show DR _ _ _ (_::_) _);first|(refine cx _ (envG _ _ _ _ _ _) rfl rfl rfl rfl rfl ?_ (hc:=by first|exact k0|exact k1|exact k2|exact k3|exact k4|exact k6 _ _ _ _))  | (refine sx ?_)));refine ja7 ?_;refine kl1 ?_
   (repeat refine ja0 ?_);refine jd6 [2] (by kernel_rfl) ?_;intro w0 A S0 f0;(repeat ((with_reducible show DRq _ _ _ (_::_) _);first|(refine cxq _ (envG _ _ _ _ _ _) rfl rfl rfl rfl rfl ?_ (hc:=by first|exact k0|exact k1|exact k2|exact k3|exact k4|exact k6 _ _ _ _))|(refine sxq ?_)));refine jc9 ?_;refine kl1 ?_
   (repeat refine ja0 ?_);refine ja3 ?_;refine retx ?_;(try dsimp only [outV,ja4])
   exact ja2 rfl
 ·have d1:decide ((d.s.length:Int)=1)=false:=decide_eq_false (by omega)
  rw [if_neg (fun h=>h1 h.1)]
  have hX:=and_true;refine pcx Tryz.func57 rfl Tryz.ntmps57 Tryz.results57 rfl ?_;intro w0 A
  have hX:=And.intro jg3 (And.intro ja9 (And.intro jb7 (And.intro jd3 (d1))))
  (repeat refine ja0 ?_);refine ja8 [0] ?_;intro w0 A S0 f0;(repeat ((with_reducible show DR _ _ _ (_::_) _);first|(refine cx _ (envG _ _ _ _ _ _) rfl rfl rfl rfl rfl ?_ (hc:=by first|exact k0|exact k1|exact k2|exact k3|exact k4|exact k5 _ _ _ _ _))  | (refine sx ?_)));refine ja7 ?_;refine kl1 ?_
  (repeat refine ja0 ?_);refine jd6 [0,3] (by kernel_rfl) ?_;intro w0 A S0 f0;(repeat ((with_reducible show DRq _ _ _ (_::_) _);first|(refine cxq _ (envG _ _ _ _ _ _) rfl rfl rfl rfl rfl ?_ (hc:=by first|exact k0|exact k1|exact k2|exact k3|exact k4|exact k5 _ _ _ _ _))|(refine sxq ?_)));refine jc9 ?_;refine kl1 ?_
  (repeat refine ja0 ?_);refine ja5 ?_
  (repeat refine ja0 ?_);refine ja8 [0,3,16] ?_;intro w0 A S0 f0;(repeat ((with_reducible show DR _ _ _ (_::_) _);first|(refine cx _ (envG _ _ _ _ _ _) rfl rfl rfl rfl rfl ?_ (hc:=by first|exact k0|exact k1|exact k2|exact k3|exact k4|exact k5 _ _ _ _ _))  | (refine sx ?_)));refine ja7 ?_;refine kl1 ?_
  (repeat refine ja0 ?_);refine iffx ?_
  (repeat refine ja0 ?_);refine jd6 [0,3,24] (by kernel_rfl) ?_;intro w0 A S0 f0;(repeat (first|(refine gtxq rfl rfl ?_)|(refine gxq ?_)|((with_reducible show DRq _ _ _ (_::_) _);first|(refine cxq _ (envG _ _ _ _ _ _) rfl rfl rfl rfl rfl ?_ (hc:=by first|exact k0|exact k1|exact k2|exact k3|exact k4|exact k5 _ _ _ _ _))|(refine sxq ?_))));refine jc9 ?_;refine kl1 ?_
  (repeat refine ja0 ?_);refine iffx ?_
  (repeat refine ja0 ?_);refine ja1 ?_
  (repeat refine ja0 ?_);refine ja8 [0,3,4] ?_;intro w0 A S0 f0;(repeat ((with_reducible show DR _ _ _ (_::_) _);first|(refine cx _ (envG _ _ _ _ _ _) rfl rfl rfl rfl rfl ?_ (hc:=by first|exact k0|exact k1|exact k2|exact k3|exact k4|exact k5 _ _ _ _ _))  | (refine sx ?_)));refine ja7 ?_;refine kl1 ?_
  (repeat refine ja0 ?_);refine jd6 [2] (by kernel_rfl) ?_;intro w0 A S0 f0;(repeat ((with_reducible show DRq _ _ _ (_::_) _);first|(refine cxq _ (envG _ _ _ _ _ _) rfl rfl rfl rfl rfl ?_ (hc:=by first|exact k0|exact k1|exact k2|exact k3|exact k4|exact k5 _ _ _ _ _))|(refine sxq ?_)));refine jc9 ?_;refine kl1 ?_
  (repeat refine ja0 ?_);refine ja3 ?_;refine retx ?_;(try dsimp only [outV,ja4])
  exact ja2 rfl
end Go.Proofs.YtegfnhibmhjdbaaGreatDoor
