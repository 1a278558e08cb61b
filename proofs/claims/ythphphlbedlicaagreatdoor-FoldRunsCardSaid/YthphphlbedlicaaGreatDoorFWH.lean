/- Auth: the desk's: what one who has joined does; a member's event (package auth). Auth: the desk's: a member's event (package auth). -/
import Derived.Test.YthphphlbedlicaaGreatDoorFPD
import Derived.Test.YthphphlbedlicaaGreatDoorFUG
import Derived.Test.YthphphlbedlicaaGreatDoorFQK
set_option linter.unusedSimpArgs false
set_option linter.unusedVariables false
set_option maxRecDepth 10000
namespace Go.Proofs.YthphphlbedlicaaGreatDoor
open Go.RowKit
set_option maxHeartbeats 8000000 in
theorem qv3 (d:Dk) (hd:dkB d):PC (ja0 Tryz.prog) 76 [.ip (dkD d)] (iD (if frmE d.e d.l (decide ((parL d.e.b).2=0))=0 then chgE d.l (parL d.e.b).1 d.e.s else frmE d.e d.l (decide ((parL d.e.b).2=0)))):=by
 have hb:=(jk3 hd.1).2.2.2.2
 have hl:=jw3 hd.2.2.2
 have kp:=kv5 d.e.b (by omega)
 have kf:=jr8 d (decide ((parL d.e.b).2=0)) hl.2
 unfold lvR at kp
 by_cases hp:(parL d.e.b).2=0
 ·have hy:=jw3 (kl5 hp).1
  have kc:=qp9 d.l (parL d.e.b).1 d.e.s hl.1 hy.1 hl.2 hy.2
  rw [decide_eq_true hp] at kf ⊢
  rw [hp] at kp
  generalize (parL d.e.b).1=y at *
  have kp:PC (ja0 Tryz.prog) 69 [.v (.string (B d.e.b))] (.tup (.cons (lvD y) (.cons (.v (.int .i64 0)) .nil))):=kp
  have kf:PC (ja0 Tryz.prog) 77 [.ip (dkD d),.v (.bool true)] (iD (frmE d.e d.l true)):=kf
  by_cases h0:frmE d.e d.l true=0
  ·rw [if_pos h0]
   rw [h0] at kf
   generalize chgE d.l y d.e.s=w at *
   have hz:decide ((0:Int)=0)=true:=rfl
   have hX:=and_true;refine pcx Tryz.func76 rfl Tryz.ntmps76 Tryz.results76 rfl ?_;intro w0 A
   have hX:=And.intro jc9 (And.intro ja3 (And.intro jg0 (hz)))
   have hK:=And.intro (kp) (And.intro (kf) (And.intro (kc) trivial));refine rgx [0] ?_
   refine rgx [0,3,4] ?_
   refine rgx [0,3,5] ?_
   refine rgx [0,3,5,20] ?_
   refine iffs ?_
   refine rqx [2] ?_
   exact retF
  ·rw [if_neg h0]
   have d1:decide (frmE d.e d.l true=0)=false:=decide_eq_false h0
   generalize frmE d.e d.l true=w at *
   have hz:decide ((0:Int)=0)=true:=rfl
   have hX:=and_true;refine pcx Tryz.func76 rfl Tryz.ntmps76 Tryz.results76 rfl ?_;intro w0 A
   have hX:=And.intro jc9 (And.intro ja3 (And.intro jg0 (And.intro hz (d1))))
   have hK:=And.intro (kp) (And.intro (kf) trivial);refine rgx [0] ?_
   refine rgx [0,3,4] ?_
   refine rgx [0,3,5] ?_
   refine rgx [0,3,5,20] ?_
   refine iftx ?_
   refine rgx [2] ?_
   exact retF
 ·have d1:=decide_eq_false hp
  rw [d1] at kf ⊢
  rw [kg7] at kf ⊢
  rw [if_neg (by decide)]
  generalize (parL d.e.b).1=y at *
  generalize (parL d.e.b).2=w at *
  have kp:PC (ja0 Tryz.prog) 69 [.v (.string (B d.e.b))] (.tup (.cons (lvD y) (.cons (.v (.int .i64 w)) .nil))):=kp
  have kf:PC (ja0 Tryz.prog) 77 [.ip (dkD d),.v (.bool false)] (iD 2):=kf
  have hX:=and_true;refine pcx Tryz.func76 rfl Tryz.ntmps76 Tryz.results76 rfl ?_;intro w0 A
  have hX:=And.intro jc9 (And.intro ja3 (And.intro jg0 (d1)))
  have hK:=And.intro (kp) (And.intro (kf) trivial);refine rgx [0] ?_
  refine rgx [0,3,4] ?_
  refine rgx [0,3,5] ?_
  refine rgx [0,3,5,20] ?_
  refine iftx ?_
  refine rgx [2] ?_
  exact retF
set_option maxHeartbeats 16000000 in
theorem vd9 (d:Dk) (hd:dkB d):PC (ja0 Tryz.prog) 42 [.ip (dkD d)] (iD (doeE d.e d.l)):=by
 have hb:=(jk3 hd.1).2.2.2.2
 have hl:=jw3 hd.2.2.2
 unfold doeE
 by_cases h3:d.e.k=3
 ·have k:=qv3 d hd
  rw [if_pos h3]
  generalize (if frmE d.e d.l (decide ((parL d.e.b).2=0))=0 then chgE d.l (parL d.e.b).1 d.e.s else frmE d.e d.l (decide ((parL d.e.b).2=0)))=w at *
  have d3:decide ((d.e.k:Int)=3)=true:=decide_eq_true (by omega)
  have hX:=and_true;refine pcx Tryz.func42 rfl Tryz.ntmps42 Tryz.results42 rfl ?_;intro w0 A
  have hX:=And.intro jg0 (And.intro ja3 (d3))
  have hK:=And.intro (k) trivial;refine rgx [0] ?_
  refine rgx [0,9] ?_
  refine rgx [0,9,10] ?_
  refine iftx ?_
  refine rgx [2] ?_
  exact retF
 have d3:decide ((d.e.k:Int)=3)=false:=decide_eq_false (by omega)
 rw [if_neg h3]
 by_cases h4:d.e.k=4
 ·have k1:=kw6 d.e.b
  have k:=jr8 d (rulM d.e.b) hl.2
  rw [if_pos h4]
  generalize rulM d.e.b=b at *
  generalize frmE d.e d.l b=w at *
  have d4:decide ((d.e.k:Int)=4)=true:=decide_eq_true (by omega)
  have hX:=and_true;refine pcx Tryz.func42 rfl Tryz.ntmps42 Tryz.results42 rfl ?_;intro w0 A
  have hX:=And.intro jg0 (And.intro ja3 (And.intro d3 (d4)))
  have hK:=And.intro (k) (And.intro (k1) trivial);refine rgx [0] ?_
  refine rgx [0,9] ?_
  refine rgx [0,9,10] ?_
  refine iffx ?_
  refine rgx [0,9,14] ?_
  refine iftx ?_
  refine rgx [2] ?_
  exact retF
 have d4:decide ((d.e.k:Int)=4)=false:=decide_eq_false (by omega)
 rw [if_neg h4]
 by_cases h8:d.e.k=8
 ·have k1:=qa4 d.e.b (by omega)
  have k:=jr8 d (numO 63 d.e.b).2 hl.2
  rw [if_pos h8]
  unfold cuD at k1
  generalize (numO 63 d.e.b).1=n at *
  generalize (numO 63 d.e.b).2=b at *
  generalize frmE d.e d.l b=w at *
  have k1:PC (ja0 Tryz.prog) 49 [.v (.string (B d.e.b))] (.tup (.cons (.v (.int .i64 (n:Int))) (.cons (.v (.bool b)) .nil))):=k1
  have d8:decide ((d.e.k:Int)=8)=true:=decide_eq_true (by omega)
  have hX:=and_true;refine pcx Tryz.func42 rfl Tryz.ntmps42 Tryz.results42 rfl ?_;intro w0 A
  have hX:=And.intro jg0 (And.intro ja3 (And.intro d3 (And.intro d4 (d8))))
  have hK:=And.intro (k) (And.intro (k1) trivial);refine rgx [0] ?_
  refine rgx [0,9] ?_
  refine rgx [0,9,10] ?_
  refine iffx ?_
  refine rgx [0,9,14] ?_
  refine iffx ?_
  refine rgx [0,9,24] ?_
  refine iftx ?_
  refine rgx [0,4] ?_
  refine rgx [2] ?_
  exact retF
 have d8:decide ((d.e.k:Int)=8)=false:=decide_eq_false (by omega)
 rw [if_neg h8]
 by_cases h5:d.e.k=5
 ·have k:PC (ja0 Tryz.prog) 77 [.ip (dkD d),.v (.bool true)] (iD (frmE d.e d.l true)):=jr8 d true hl.2
  rw [if_pos h5]
  generalize frmE d.e d.l true=w at *
  have d5:decide ((d.e.k:Int)=5)=true:=decide_eq_true (by omega)
  have hX:=and_true;refine pcx Tryz.func42 rfl Tryz.ntmps42 Tryz.results42 rfl ?_;intro w0 A
  have hX:=And.intro jg0 (And.intro ja3 (And.intro d3 (And.intro d4 (And.intro d8 (d5)))))
  have hK:=And.intro (k) trivial;refine rgx [0] ?_
  refine rgx [0,9] ?_
  refine rgx [0,9,10] ?_
  refine iffx ?_
  refine rgx [0,9,14] ?_
  refine iffx ?_
  refine rgx [0,9,24] ?_
  refine iffx ?_
  refine rgx [0,9,38] ?_
  refine iftx ?_
  refine rgx [2] ?_
  exact retF
 have d5:decide ((d.e.k:Int)=5)=false:=decide_eq_false (by omega)
 rw [if_neg h5]
 by_cases h7:d.e.k=7
 ·have k:=km8 d d.l.r hl.2
  rw [if_pos h7]
  generalize enoE d.e d.l d.l.r=w at *
  have d7:decide ((d.e.k:Int)=7)=true:=decide_eq_true (by omega)
  have hX:=and_true;refine pcx Tryz.func42 rfl Tryz.ntmps42 Tryz.results42 rfl ?_;intro w0 A
  have hX:=And.intro jg0 (And.intro ja3 (And.intro jb1 (And.intro d3 (And.intro d4 (And.intro d8 (And.intro d5 (d7)))))))
  have hK:=And.intro (k) trivial;refine rgx [0] ?_
  refine rgx [0,9] ?_
  refine rgx [0,9,10] ?_
  refine iffx ?_
  refine rgx [0,9,14] ?_
  refine iffx ?_
  refine rgx [0,9,24] ?_
  refine iffx ?_
  refine rgx [0,9,38] ?_
  refine iffx ?_
  refine rgx [0,42] ?_
  refine iftx ?_
  refine rgx [2] ?_
  exact retF
 have d7:decide ((d.e.k:Int)=7)=false:=decide_eq_false (by omega)
 rw [if_neg h7]
 have hX:=and_true;refine pcx Tryz.func42 rfl Tryz.ntmps42 Tryz.results42 rfl ?_;intro w0 A
 have hX:=And.intro jg0 (And.intro ja3 (And.intro d3 (And.intro d4 (And.intro d8 (And.intro d5 (d7))))))
 refine rgx [0] ?_
 refine rgx [0,9] ?_
 refine rgx [0,9,10] ?_
 refine iffx ?_
 refine rgx [0,9,14] ?_
 refine iffx ?_
 refine rgx [0,9,24] ?_
 refine iffx ?_
 refine rgx [0,9,38] ?_
 refine iffx ?_
 refine rgx [0,42] ?_
 refine iffs ?_
 refine rgx [2] ?_
 exact retF
set_option maxHeartbeats 32000000 in
theorem qn5 (d:Dk) (hd:dkB d):PC (ja0 Tryz.prog) 40 [.ip (dkD d)] (iD (memE d.s d.e d.c d.l d.r)):=by
 have hl:=jw3 hd.2.2.2
 have hn:d.s.length≤140737488351232:=by have:=(jg9 hd.2.2.1).1;omega
 have k0:PC (ja0 Tryz.prog) 72 [.v (.string (B d.e.b))] (bD (isM d.e.b)):=kp2 d.e.b
 have k1:=qi6 d d.e.s hn
 have k2:=qi6 d d.e.y hn
 have k3:=ks4 d d.e.s hl.2
 have k4:=ks4 d d.e.y hl.2
 have k5:=qj4 (kl2 (movE d.s d.e d.l d.r))
 unfold memE
 cases hm:isM d.e.b
 ·rw [hm] at k0
  have hX:=and_true;refine pcx Tryz.func40 rfl Tryz.ntmps40 Tryz.results40 rfl ?_;intro w0 A
  have hX:=And.intro jg0 (ja3)
  have hK:=And.intro (k0) trivial;refine rgx [0] ?_
  refine rqx [0,3] ?_
  refine rgx [0,3,16] ?_
  refine iftx ?_
  refine rgx [2] ?_
  exact retF
 rw [hm] at k0
 rw [if_neg (by decide)]
 by_cases h1:d.s.length=1
 ·have d1:decide ((d.s.length:Int)=1)=true:=decide_eq_true (by omega)
  by_cases hsy:d.e.s=d.e.y
  ·have gsy:=dsT hsy
   have k6:=qp2 (kl2 (movE d.s d.e d.l d.r)) (decide_eq_true hsy)
   by_cases hsc:d.e.s=d.c.s
   ·have gsc:=dsT hsc
    by_cases hj:d.e.b=joT
    ·have gj:=dsT (b:=[106,111,105,110]) hj
     rw [if_pos ⟨h1,hsy,hsc,hj⟩]
     have hX:=and_true;refine pcx Tryz.func40 rfl Tryz.ntmps40 Tryz.results40 rfl ?_;intro w0 A
     have hX:=And.intro jg0 (And.intro ja3 (And.intro jd1 (And.intro d1 (And.intro gsy (And.intro gsc (gj))))))
     have hK:=And.intro (k0) trivial;refine rgx [0] ?_
     refine rqx [0,3] ?_
     refine rgx [0,3,16] ?_
     refine iffx ?_
     refine rqgx [0,3,24] ?_
     refine iftx ?_
     refine rgx [2] ?_
     exact retF
    ·have gj:=dsF (b:=[106,111,105,110]) hj
     rw [if_neg (fun h=>hj h.2.2.2)]
     have hX:=and_true;refine pcx Tryz.func40 rfl Tryz.ntmps40 Tryz.results40 rfl ?_;intro w0 A
     have hX:=And.intro jg0 (And.intro ja3 (And.intro jd1 (And.intro jb1 (And.intro d1 (And.intro gsy (And.intro gsc (gj)))))))
     refine regX [0] ?_;intro w0 A S0 f0;(repeat ((with_reducible show DR _ _ _ (_::_) _);first|(refine cx _ (envG _ _ _ _ _ _) rfl rfl rfl rfl rfl ?_ (hc:=by first|exact k0|exact k1|exact k2|exact k3|exact k4|exact k6 _ _ _ _))  | (refine sx ?_)));refine ja1 ?_;refine kl1 ?_
     (repeat refine ja2 ?_);refine je7 [0,3] (by kernel_rfl) ?_;intro w0 A S0 f0;(repeat ((with_reducible show DRq _ _ _ (_::_) _);first|(refine cxq _ (envG _ _ _ _ _ _) rfl rfl rfl rfl rfl ?_ (hc:=by first|exact k0|exact k1|exact k2|exact k3|exact k4|exact k6 _ _ _ _))|(refine sxq ?_)));refine jd2 ?_;refine kl1 ?_
     refine regX [0,3,16] ?_;intro w0 A S0 f0;(repeat ((with_reducible show DR _ _ _ (_::_) _);first|(refine cx _ (envG _ _ _ _ _ _) rfl rfl rfl rfl rfl ?_ (hc:=by first|exact k0|exact k1|exact k2|exact k3|exact k4|exact k6 _ _ _ _))  | (refine sx ?_)));refine ja1 ?_;refine kl1 ?_
     refine iffx ?_
     (repeat refine ja2 ?_);refine je7 [0,3,24] (by kernel_rfl) ?_;intro w0 A S0 f0;(repeat (first|(refine gtxq rfl rfl ?_)|(refine gxq ?_)|((with_reducible show DRq _ _ _ (_::_) _);first|(refine cxq _ (envG _ _ _ _ _ _) rfl rfl rfl rfl rfl ?_ (hc:=by first|exact k0|exact k1|exact k2|exact k3|exact k4|exact k6 _ _ _ _))|(refine sxq ?_))));refine jd2 ?_;refine kl1 ?_
     refine iffs ?_
     refine regX [0,3,4] ?_;intro w0 A S0 f0;(repeat ((with_reducible show DR _ _ _ (_::_) _);first|(refine cx _ (envG _ _ _ _ _ _) rfl rfl rfl rfl rfl ?_ (hc:=by first|exact k0|exact k1|exact k2|exact k3|exact k4|exact k6 _ _ _ _))  | (refine sx ?_)));refine ja1 ?_;refine kl1 ?_
     (repeat refine ja2 ?_);refine je7 [2] (by kernel_rfl) ?_;intro w0 A S0 f0;(repeat ((with_reducible show DRq _ _ _ (_::_) _);first|(refine cxq _ (envG _ _ _ _ _ _) rfl rfl rfl rfl rfl ?_ (hc:=by first|exact k0|exact k1|exact k2|exact k3|exact k4|exact k6 _ _ _ _))|(refine sxq ?_)));refine jd2 ?_;refine kl1 ?_
     exact retF
   ·have gsc:=dsF hsc
    rw [if_neg (fun h=>hsc h.2.2.1)]
    have hX:=and_true;refine pcx Tryz.func40 rfl Tryz.ntmps40 Tryz.results40 rfl ?_;intro w0 A
    have hX:=And.intro jg0 (And.intro ja3 (And.intro jd1 (And.intro jb1 (And.intro d1 (And.intro gsy (gsc))))))
    refine regX [0] ?_;intro w0 A S0 f0;(repeat ((with_reducible show DR _ _ _ (_::_) _);first|(refine cx _ (envG _ _ _ _ _ _) rfl rfl rfl rfl rfl ?_ (hc:=by first|exact k0|exact k1|exact k2|exact k3|exact k4|exact k6 _ _ _ _))  | (refine sx ?_)));refine ja1 ?_;refine kl1 ?_
    (repeat refine ja2 ?_);refine je7 [0,3] (by kernel_rfl) ?_;intro w0 A S0 f0;(repeat ((with_reducible show DRq _ _ _ (_::_) _);first|(refine cxq _ (envG _ _ _ _ _ _) rfl rfl rfl rfl rfl ?_ (hc:=by first|exact k0|exact k1|exact k2|exact k3|exact k4|exact k6 _ _ _ _))|(refine sxq ?_)));refine jd2 ?_;refine kl1 ?_
    refine regX [0,3,16] ?_;intro w0 A S0 f0;(repeat ((with_reducible show DR _ _ _ (_::_) _);first|(refine cx _ (envG _ _ _ _ _ _) rfl rfl rfl rfl rfl ?_ (hc:=by first|exact k0|exact k1|exact k2|exact k3|exact k4|exact k6 _ _ _ _))  | (refine sx ?_)));refine ja1 ?_;refine kl1 ?_
    refine iffx ?_
    (repeat refine ja2 ?_);refine je7 [0,3,24] (by kernel_rfl) ?_;intro w0 A S0 f0;(repeat (first|(refine gtxq rfl rfl ?_)|(refine gxq ?_)|((with_reducible show DRq _ _ _ (_::_) _);first|(refine cxq _ (envG _ _ _ _ _ _) rfl rfl rfl rfl rfl ?_ (hc:=by first|exact k0|exact k1|exact k2|exact k3|exact k4|exact k6 _ _ _ _))|(refine sxq ?_))));refine jd2 ?_;refine kl1 ?_
    refine iffs ?_
    refine regX [0,3,4] ?_;intro w0 A S0 f0;(repeat ((with_reducible show DR _ _ _ (_::_) _);first|(refine cx _ (envG _ _ _ _ _ _) rfl rfl rfl rfl rfl ?_ (hc:=by first|exact k0|exact k1|exact k2|exact k3|exact k4|exact k6 _ _ _ _))  | (refine sx ?_)));refine ja1 ?_;refine kl1 ?_
    (repeat refine ja2 ?_);refine je7 [2] (by kernel_rfl) ?_;intro w0 A S0 f0;(repeat ((with_reducible show DRq _ _ _ (_::_) _);first|(refine cxq _ (envG _ _ _ _ _ _) rfl rfl rfl rfl rfl ?_ (hc:=by first|exact k0|exact k1|exact k2|exact k3|exact k4|exact k6 _ _ _ _))|(refine sxq ?_)));refine jd2 ?_;refine kl1 ?_
    exact retF
  ·have gsy:=dsF hsy
   have k6:=qp2 (kl2 (movE d.s d.e d.l d.r)) (decide_eq_false hsy)
   rw [if_neg (fun h=>hsy h.2.1)]
   have hX:=and_true;refine pcx Tryz.func40 rfl Tryz.ntmps40 Tryz.results40 rfl ?_;intro w0 A
   have hX:=And.intro jg0 (And.intro ja3 (And.intro jd1 (And.intro jb1 (And.intro d1 (gsy)))))
   refine regX [0] ?_;intro w0 A S0 f0;(repeat ((with_reducible show DR _ _ _ (_::_) _);first|(refine cx _ (envG _ _ _ _ _ _) rfl rfl rfl rfl rfl ?_ (hc:=by first|exact k0|exact k1|exact k2|exact k3|exact k4|exact k6 _ _ _ _))  | (refine sx ?_)));refine ja1 ?_;refine kl1 ?_
   (repeat refine ja2 ?_);refine je7 [0,3] (by kernel_rfl) ?_;intro w0 A S0 f0;(repeat ((with_reducible show DRq _ _ _ (_::_) _);first|(refine cxq _ (envG _ _ _ _ _ _) rfl rfl rfl rfl rfl ?_ (hc:=by first|exact k0|exact k1|exact k2|exact k3|exact k4|exact k6 _ _ _ _))|(refine sxq ?_)));refine jd2 ?_;refine kl1 ?_
   refine regX [0,3,16] ?_;intro w0 A S0 f0;(repeat ((with_reducible show DR _ _ _ (_::_) _);first|(refine cx _ (envG _ _ _ _ _ _) rfl rfl rfl rfl rfl ?_ (hc:=by first|exact k0|exact k1|exact k2|exact k3|exact k4|exact k6 _ _ _ _))  | (refine sx ?_)));refine ja1 ?_;refine kl1 ?_
   refine iffx ?_
   (repeat refine ja2 ?_);refine je7 [0,3,24] (by kernel_rfl) ?_;intro w0 A S0 f0;(repeat (first|(refine gtxq rfl rfl ?_)|(refine gxq ?_)|((with_reducible show DRq _ _ _ (_::_) _);first|(refine cxq _ (envG _ _ _ _ _ _) rfl rfl rfl rfl rfl ?_ (hc:=by first|exact k0|exact k1|exact k2|exact k3|exact k4|exact k6 _ _ _ _))|(refine sxq ?_))));refine jd2 ?_;refine kl1 ?_
   refine iffs ?_
   refine regX [0,3,4] ?_;intro w0 A S0 f0;(repeat ((with_reducible show DR _ _ _ (_::_) _);first|(refine cx _ (envG _ _ _ _ _ _) rfl rfl rfl rfl rfl ?_ (hc:=by first|exact k0|exact k1|exact k2|exact k3|exact k4|exact k6 _ _ _ _))  | (refine sx ?_)));refine ja1 ?_;refine kl1 ?_
   (repeat refine ja2 ?_);refine je7 [2] (by kernel_rfl) ?_;intro w0 A S0 f0;(repeat ((with_reducible show DRq _ _ _ (_::_) _);first|(refine cxq _ (envG _ _ _ _ _ _) rfl rfl rfl rfl rfl ?_ (hc:=by first|exact k0|exact k1|exact k2|exact k3|exact k4|exact k6 _ _ _ _))|(refine sxq ?_)));refine jd2 ?_;refine kl1 ?_
   exact retF
 ·have d1:decide ((d.s.length:Int)=1)=false:=decide_eq_false (by omega)
  rw [if_neg (fun h=>h1 h.1)]
  have hX:=and_true;refine pcx Tryz.func40 rfl Tryz.ntmps40 Tryz.results40 rfl ?_;intro w0 A
  have hX:=And.intro jg0 (And.intro ja3 (And.intro jb1 (And.intro jd1 (d1))))
  refine regX [0] ?_;intro w0 A S0 f0;(repeat ((with_reducible show DR _ _ _ (_::_) _);first|(refine cx _ (envG _ _ _ _ _ _) rfl rfl rfl rfl rfl ?_ (hc:=by first|exact k0|exact k1|exact k2|exact k3|exact k4|exact k5 _ _ _ _ _))  | (refine sx ?_)));refine ja1 ?_;refine kl1 ?_
  (repeat refine ja2 ?_);refine je7 [0,3] (by kernel_rfl) ?_;intro w0 A S0 f0;(repeat ((with_reducible show DRq _ _ _ (_::_) _);first|(refine cxq _ (envG _ _ _ _ _ _) rfl rfl rfl rfl rfl ?_ (hc:=by first|exact k0|exact k1|exact k2|exact k3|exact k4|exact k5 _ _ _ _ _))|(refine sxq ?_)));refine jd2 ?_;refine kl1 ?_
  refine regX [0,3,16] ?_;intro w0 A S0 f0;(repeat ((with_reducible show DR _ _ _ (_::_) _);first|(refine cx _ (envG _ _ _ _ _ _) rfl rfl rfl rfl rfl ?_ (hc:=by first|exact k0|exact k1|exact k2|exact k3|exact k4|exact k5 _ _ _ _ _))  | (refine sx ?_)));refine ja1 ?_;refine kl1 ?_
  refine iffx ?_
  (repeat refine ja2 ?_);refine je7 [0,3,24] (by kernel_rfl) ?_;intro w0 A S0 f0;(repeat (first|(refine gtxq rfl rfl ?_)|(refine gxq ?_)|((with_reducible show DRq _ _ _ (_::_) _);first|(refine cxq _ (envG _ _ _ _ _ _) rfl rfl rfl rfl rfl ?_ (hc:=by first|exact k0|exact k1|exact k2|exact k3|exact k4|exact k5 _ _ _ _ _))|(refine sxq ?_))));refine jd2 ?_;refine kl1 ?_
  refine iffs ?_
  refine regX [0,3,4] ?_;intro w0 A S0 f0;(repeat ((with_reducible show DR _ _ _ (_::_) _);first|(refine cx _ (envG _ _ _ _ _ _) rfl rfl rfl rfl rfl ?_ (hc:=by first|exact k0|exact k1|exact k2|exact k3|exact k4|exact k5 _ _ _ _ _))  | (refine sx ?_)));refine ja1 ?_;refine kl1 ?_
  (repeat refine ja2 ?_);refine je7 [2] (by kernel_rfl) ?_;intro w0 A S0 f0;(repeat ((with_reducible show DRq _ _ _ (_::_) _);first|(refine cxq _ (envG _ _ _ _ _ _) rfl rfl rfl rfl rfl ?_ (hc:=by first|exact k0|exact k1|exact k2|exact k3|exact k4|exact k5 _ _ _ _ _))|(refine sxq ?_)));refine jd2 ?_;refine kl1 ?_
  exact retF
end Go.Proofs.YthphphlbedlicaaGreatDoor
