/- Auth: the document's: a member's event; whether an event may be (palaverref17). -/
import Derived.Test.YthphphlbedlicaaGreatDoorFPD
import Derived.Test.YthphphlbedlicaaGreatDoorFUJ
import Derived.Test.YthphphlbedlicaaGreatDoorFUG
import Derived.Test.YthphphlbedlicaaGreatDoorFMA
import Derived.Test.YthphphlbedlicaaGreatDoorFUT
import Derived.Test.YthphphlbedlicaaGreatDoorFQJ
set_option linter.unusedSimpArgs false
set_option linter.unusedVariables false
set_option maxRecDepth 10000
namespace Go.Proofs.YthphphlbedlicaaGreatDoor
open Go.RowKit
set_option maxHeartbeats 32000000 in
theorem kz0 (s:List Cl) (e c:Ev) (l:Lv) (r:List UInt8) (hs:ccB s) (hc:chkC s=0) (hl:chkE l=0) (hk:lkC s 1 []=some c):PC (ja0 Tryz.prog) 54 [ccD s,evtD e,lvD l,strD r] (iD (memE s e c l r)):=by
 have hu:=jw3 hl
 have hn:s.length≤140737488351232:=by have:=(jg9 hc).1;omega
 have k0:PC (ja0 Tryz.prog) 86 [.v (.string (B e.b))] (bD (isM e.b)):=ki1 e.b
 have kg:PC (ja0 Tryz.prog) 51 [ccD s,.v (.int .u8 1)] _:=jo1 hs hc hk
 have k1:=jw7 s e.s hn
 have k2:=jw7 s e.y hn
 have k3:=jp5 l e.s hu.2
 have k4:=jp5 l e.y hu.2
 have k5:=qj4 (qx5 (movE s e l r))
 unfold memE
 cases hm:isM e.b
 ·rw [hm] at k0
  have hX:=and_true;refine pcx Tryz.func54 rfl Tryz.ntmps54 Tryz.results54 rfl ?_;intro w0 A
  have hX:=And.intro jb7 (And.intro jc9 (And.intro jb3 (ja3)))
  have hK:=And.intro (k0) trivial;refine rgx [0,3,5,6] ?_
  refine rgx [0,3,5,6,15] ?_
  refine iftx ?_
  refine rgx [8] ?_
  exact retF
 rw [hm] at k0
 rw [if_neg (by decide)]
 by_cases h1:s.length=1
 ·have d1:decide ((s.length:Int)=1)=true:=decide_eq_true (by omega)
  by_cases hsc:e.s=c.s
  ·have gsc:=dsT hsc
   by_cases hyc:e.y=c.s
   ·have gyc:=dsT hyc
    by_cases hj:e.b=joT
    ·have gj:=dsT (b:=[106,111,105,110]) hj
     rw [if_pos ⟨h1,hsc.trans hyc.symm,hsc,hj⟩]
     have hX:=and_true;refine pcx Tryz.func54 rfl Tryz.ntmps54 Tryz.results54 rfl ?_;intro w0 A
     have hX:=And.intro jb7 (And.intro jc9 (And.intro jb3 (And.intro ja3 (And.intro jd1 (And.intro d1 (And.intro gsc (And.intro gyc (gj))))))))
     have hK:=And.intro (k0) (And.intro (kg) trivial);refine rgx [0,3,5,6] ?_
     refine rgx [0,3,5,6,15] ?_
     refine iffs ?_
     refine rgx [0,3,5,6,9] ?_
     refine rggx [0,3,5,6,42] ?_
     refine iftx ?_
     refine rgx [8] ?_
     exact retF
    ·have gj:=dsF (b:=[106,111,105,110]) hj
     rw [if_neg (fun h=>hj h.2.2.2)]
     have hX:=and_true;refine pcx Tryz.func54 rfl Tryz.ntmps54 Tryz.results54 rfl ?_;intro w0 A
     have hX:=And.intro jb7 (And.intro jc9 (And.intro jb3 (And.intro ja3 (And.intro jd1 (And.intro d1 (And.intro gsc (And.intro gyc (gj))))))))
     have hK:=And.intro (k0) (And.intro (kg) trivial);refine rgx [0,3,5,6] ?_
     refine rgx [0,3,5,6,15] ?_
     refine iffs ?_
     refine rgx [0,3,5,6,9] ?_
     refine rggx [0,3,5,6,42] ?_
     refine iffs ?_
     have hX:=And.intro jb7 (And.intro jc9 (And.intro jb3 (And.intro ja3 (jb1))))
     refine regX [0,3,5,6,11] ?_;intro w0 A S0 f0;(repeat ((with_reducible show DR _ _ _ (_::_) _);first|(refine cx _ (envG _ _ _ _ _ _) rfl rfl rfl rfl rfl ?_ (hc:=by first|exact k1|exact k2|exact k3|exact k4|exact k5 _ _ _ _ _))  | (refine sx ?_)));refine ja1 ?_;refine kl1 ?_
     (repeat refine ja2 ?_);refine je7 [8] (by kernel_rfl) ?_;intro w0 A S0 f0;(repeat ((with_reducible show DRq _ _ _ (_::_) _);first|(refine cxq _ (envG _ _ _ _ _ _) rfl rfl rfl rfl rfl ?_ (hc:=by first|exact k1|exact k2|exact k3|exact k4|exact k5 _ _ _ _ _))|(refine sxq ?_)));refine jd2 ?_;refine kl1 ?_
     exact retF
   ·have gyc:=dsF hyc
    rw [if_neg (fun h=>hyc (h.2.1.symm.trans h.2.2.1))]
    have hX:=and_true;refine pcx Tryz.func54 rfl Tryz.ntmps54 Tryz.results54 rfl ?_;intro w0 A
    have hX:=And.intro jb7 (And.intro jc9 (And.intro jb3 (And.intro ja3 (And.intro jd1 (And.intro d1 (And.intro gsc (gyc)))))))
    have hK:=And.intro (k0) (And.intro (kg) trivial);refine rgx [0,3,5,6] ?_
    refine rgx [0,3,5,6,15] ?_
    refine iffs ?_
    refine rgx [0,3,5,6,9] ?_
    refine rggx [0,3,5,6,42] ?_
    refine iffs ?_
    have hX:=And.intro jb7 (And.intro jc9 (And.intro jb3 (And.intro ja3 (jb1))))
    refine regX [0,3,5,6,11] ?_;intro w0 A S0 f0;(repeat ((with_reducible show DR _ _ _ (_::_) _);first|(refine cx _ (envG _ _ _ _ _ _) rfl rfl rfl rfl rfl ?_ (hc:=by first|exact k1|exact k2|exact k3|exact k4|exact k5 _ _ _ _ _))  | (refine sx ?_)));refine ja1 ?_;refine kl1 ?_
    (repeat refine ja2 ?_);refine je7 [8] (by kernel_rfl) ?_;intro w0 A S0 f0;(repeat ((with_reducible show DRq _ _ _ (_::_) _);first|(refine cxq _ (envG _ _ _ _ _ _) rfl rfl rfl rfl rfl ?_ (hc:=by first|exact k1|exact k2|exact k3|exact k4|exact k5 _ _ _ _ _))|(refine sxq ?_)));refine jd2 ?_;refine kl1 ?_
    exact retF
  ·have gsc:=dsF hsc
   rw [if_neg (fun h=>hsc h.2.2.1)]
   have hX:=and_true;refine pcx Tryz.func54 rfl Tryz.ntmps54 Tryz.results54 rfl ?_;intro w0 A
   have hX:=And.intro jb7 (And.intro jc9 (And.intro jb3 (And.intro ja3 (And.intro jd1 (And.intro d1 (gsc))))))
   have hK:=And.intro (k0) (And.intro (kg) trivial);refine rgx [0,3,5,6] ?_
   refine rgx [0,3,5,6,15] ?_
   refine iffs ?_
   refine rgx [0,3,5,6,9] ?_
   refine rggx [0,3,5,6,42] ?_
   refine iffs ?_
   have hX:=And.intro jb7 (And.intro jc9 (And.intro jb3 (And.intro ja3 (jb1))))
   refine regX [0,3,5,6,11] ?_;intro w0 A S0 f0;(repeat ((with_reducible show DR _ _ _ (_::_) _);first|(refine cx _ (envG _ _ _ _ _ _) rfl rfl rfl rfl rfl ?_ (hc:=by first|exact k1|exact k2|exact k3|exact k4|exact k5 _ _ _ _ _))  | (refine sx ?_)));refine ja1 ?_;refine kl1 ?_
   (repeat refine ja2 ?_);refine je7 [8] (by kernel_rfl) ?_;intro w0 A S0 f0;(repeat ((with_reducible show DRq _ _ _ (_::_) _);first|(refine cxq _ (envG _ _ _ _ _ _) rfl rfl rfl rfl rfl ?_ (hc:=by first|exact k1|exact k2|exact k3|exact k4|exact k5 _ _ _ _ _))|(refine sxq ?_)));refine jd2 ?_;refine kl1 ?_
   exact retF
 ·have d1:decide ((s.length:Int)=1)=false:=decide_eq_false (by omega)
  rw [if_neg (fun h=>h1 h.1)]
  have hX:=and_true;refine pcx Tryz.func54 rfl Tryz.ntmps54 Tryz.results54 rfl ?_;intro w0 A
  have hX:=And.intro jb7 (And.intro jc9 (And.intro jb3 (And.intro ja3 (And.intro jb1 (And.intro jd1 (d1))))))
  refine regX [0,3,5,6] ?_;intro w0 A S0 f0;(repeat ((with_reducible show DR _ _ _ (_::_) _);first|(refine cx _ (envG _ _ _ _ _ _) rfl rfl rfl rfl rfl ?_ (hc:=by first|exact k0|exact kg|exact k1|exact k2|exact k3|exact k4|exact k5 _ _ _ _ _))  | (refine sx ?_)));refine ja1 ?_;refine kl1 ?_
  refine regX [0,3,5,6,15] ?_;intro w0 A S0 f0;(repeat ((with_reducible show DR _ _ _ (_::_) _);first|(refine cx _ (envG _ _ _ _ _ _) rfl rfl rfl rfl rfl ?_ (hc:=by first|exact k0|exact kg|exact k1|exact k2|exact k3|exact k4|exact k5 _ _ _ _ _))  | (refine sx ?_)));refine ja1 ?_;refine kl1 ?_
  refine iffs ?_
  refine regX [0,3,5,6,9] ?_;intro w0 A S0 f0;(repeat ((with_reducible show DR _ _ _ (_::_) _);first|(refine cx _ (envG _ _ _ _ _ _) rfl rfl rfl rfl rfl ?_ (hc:=by first|exact k0|exact kg|exact k1|exact k2|exact k3|exact k4|exact k5 _ _ _ _ _))  | (refine sx ?_)));refine ja1 ?_;refine kl1 ?_
  refine regX [0,3,5,6,42] ?_;intro w0 A S0 f0;(repeat (first|(refine gtx rfl rfl ?_)|(refine gx ?_)|((with_reducible show DR _ _ _ (_::_) _);first|(refine cx _ (envG _ _ _ _ _ _) rfl rfl rfl rfl rfl ?_ (hc:=by first|exact k0|exact kg|exact k1|exact k2|exact k3|exact k4|exact k5 _ _ _ _ _))  | (refine sx ?_))));refine ja1 ?_;refine kl1 ?_
  refine iffs ?_
  refine regX [0,3,5,6,11] ?_;intro w0 A S0 f0;(repeat ((with_reducible show DR _ _ _ (_::_) _);first|(refine cx _ (envG _ _ _ _ _ _) rfl rfl rfl rfl rfl ?_ (hc:=by first|exact k0|exact kg|exact k1|exact k2|exact k3|exact k4|exact k5 _ _ _ _ _))  | (refine sx ?_)));refine ja1 ?_;refine kl1 ?_
  (repeat refine ja2 ?_);refine je7 [8] (by kernel_rfl) ?_;intro w0 A S0 f0;(repeat ((with_reducible show DRq _ _ _ (_::_) _);first|(refine cxq _ (envG _ _ _ _ _ _) rfl rfl rfl rfl rfl ?_ (hc:=by first|exact k0|exact kg|exact k1|exact k2|exact k3|exact k4|exact k5 _ _ _ _ _))|(refine sxq ?_)));refine jd2 ?_;refine kl1 ?_
  exact retF
theorem jy8 {e:Ev}{l:Lv}{n:Int} (h:ofL l e.s<n):enoE e l n=12:=if_pos h
theorem jy7 {e:Ev}{l:Lv}{n:Int} (h:¬ofL l e.s<n):enoE e l n=0:=if_neg h
set_option maxHeartbeats 64000000 in
theorem qj9 (s:List Cl) (e:Ev) (hs:ccB s) (he:evB e):PC (ja0 Tryz.prog) 23 [ccD s,evtD e] (iD (alwE s e)):=by
 have k1:=jl7 s hs
 have k2:=kf0 e he.1 he.2.1 he.2.2.1 he.2.2.2
 unfold alwE
 by_cases hc:chkC s=0
 ·rw [hc] at k1
  by_cases h0:evE e=0
  ·rw [h0] at k2
   rw [if_neg (fun h=>h ⟨hc,h0⟩)]
   have hn:s.length≤140737488351232:=by have:=(jg9 hc).1;omega
   have hb:=jk3 (ju0 h0)
   by_cases h1:e.k=1
   ·have kr:=jz8 e.r he.1
    have ku:=jl6 e.s he.2.1
    rw [if_pos h1]
    unfold creE
    unfold osD at kr ku
    generalize (srv 2 e.r).1=a at *
    generalize (srv 2 e.r).2=a2 at *
    generalize (srv 1 e.s).1=b at *
    generalize (srv 1 e.s).2=b2 at *
    have kr:PC (ja0 Tryz.prog) 26 [.v (.string (B e.r))] (.tup (.cons (.v (.int .i64 a)) (.cons (.v (.bool a2)) .nil))):=kr
    have ku:PC (ja0 Tryz.prog) 34 [.v (.string (B e.s))] (.tup (.cons (.v (.int .i64 b)) (.cons (.v (.bool b2)) .nil))):=ku
    have d1:decide ((e.k:Int)=1)=true:=decide_eq_true (by omega)
    by_cases hz:0<s.length
    ·have d2:decide ((0:Int)<(s.length:Int))=true:=decide_eq_true (by omega)
     rw [if_pos (.inl hz)]
     have hX:=and_true;refine pcx Tryz.func23 rfl Tryz.ntmps23 Tryz.results23 rfl ?_;intro w0 A
     have hX:=And.intro jb7 (And.intro jb3 (And.intro ja7 (And.intro ja3 (And.intro jd1 (And.intro d1 (d2))))))
     have hK:=And.intro (k1) (And.intro (k2) (And.intro (kr) (And.intro (ku) trivial)));refine rgx [0,3] ?_
     refine rggx [0,3,26] ?_
     refine iffs ?_
     refine rgx [0,3,29] ?_
     refine iftx ?_
     refine rgx [0,3,5] ?_
     refine rgx [0,5,7] ?_
     refine rggx [49] ?_
     refine iftx ?_
     refine rgx [4] ?_
     exact retF
    have d2:decide ((0:Int)<(s.length:Int))=false:=decide_eq_false (by omega)
    by_cases hab:a=b
    ·have d3:decide (a=b)=true:=decide_eq_true hab
     rw [if_neg (fun h=>h.elim hz (fun h=>h hab))]
     have hX:=and_true;refine pcx Tryz.func23 rfl Tryz.ntmps23 Tryz.results23 rfl ?_;intro w0 A
     have hX:=And.intro jb7 (And.intro jb3 (And.intro ja7 (And.intro ja3 (And.intro jd1 (And.intro d1 (And.intro d2 (d3)))))))
     have hK:=And.intro (k1) (And.intro (k2) (And.intro (kr) (And.intro (ku) trivial)));refine rgx [0,3] ?_
     refine rggx [0,3,26] ?_
     refine iffs ?_
     refine rgx [0,3,29] ?_
     refine iftx ?_
     refine rgx [0,3,5] ?_
     refine rgx [0,5,7] ?_
     refine rggx [49] ?_
     refine iffs ?_
     refine rgx [4] ?_
     exact retF
    ·have d3:decide (a=b)=false:=decide_eq_false hab
     rw [if_pos (.inr hab)]
     have hX:=and_true;refine pcx Tryz.func23 rfl Tryz.ntmps23 Tryz.results23 rfl ?_;intro w0 A
     have hX:=And.intro jb7 (And.intro jb3 (And.intro ja7 (And.intro ja3 (And.intro jd1 (And.intro d1 (And.intro d2 (d3)))))))
     have hK:=And.intro (k1) (And.intro (k2) (And.intro (kr) (And.intro (ku) trivial)));refine rgx [0,3] ?_
     refine rggx [0,3,26] ?_
     refine iffs ?_
     refine rgx [0,3,29] ?_
     refine iftx ?_
     refine rgx [0,3,5] ?_
     refine rgx [0,5,7] ?_
     refine rggx [49] ?_
     refine iftx ?_
     refine rgx [4] ?_
     exact retF
   have d1:decide ((e.k:Int)=1)=false:=decide_eq_false (by omega)
   rw [if_neg h1]
   cases hl:lkC s 1 [] with
   | none =>
    have k3:PC (ja0 Tryz.prog) 51 [ccD s,.v (.int .u8 1)] _:=js3 hs hc hl
    simp only
    have hX:=and_true;refine pcx Tryz.func23 rfl Tryz.ntmps23 Tryz.results23 rfl ?_;intro w0 A
    have hX:=And.intro jb7 (And.intro jb3 (And.intro ja3 (d1)))
    have hK:=And.intro (k1) (And.intro (k2) (And.intro (k3) trivial));refine rgx [0,3] ?_
    refine rggx [0,3,26] ?_
    refine iffs ?_
    refine rgx [0,3,29] ?_
    refine iffs ?_
    refine rgx [0,3,9,10] ?_
    refine rggx [0,3,63] ?_
    refine iftx ?_
    refine rgx [4] ?_
    exact retF
   | some c =>
    have k3:PC (ja0 Tryz.prog) 51 [ccD s,.v (.int .u8 1)] _:=jo1 hs hc hl
    simp only
    have k4:=qq7 s hs
    have k5:=vi0 s hs
    have hk:∀h:(levC s).2=0,chkE (levC s).1=0:=qo9
    unfold lvR at k4
    unfold seD at k5
    generalize (levC s).1=y at *
    generalize (levC s).2=w at *
    generalize (rulC s).1=r at *
    generalize (rulC s).2=v at *
    have k5:PC (ja0 Tryz.prog) 53 [ccD s] (.tup (.cons (.v (.string (B r))) (.cons (.v (.int .i64 v)) .nil))):=k5
    have hX:=and_true;refine pcx Tryz.func23 rfl Tryz.ntmps23 Tryz.results23 rfl ?_;intro w0 A
    have hX:=And.intro jb7 (And.intro jb3 (And.intro ja3 (d1)))
    have hK:=And.intro (k1) (And.intro (k2) (And.intro (k3) trivial));refine rgx [0,3] ?_
    refine rggx [0,3,26] ?_
    refine iffs ?_
    refine rgx [0,3,29] ?_
    refine iffs ?_
    refine rgx [0,3,9,10] ?_
    refine rggx [0,3,63] ?_
    refine ifx ?_ ?_
    ·intro hr
     rw [if_pos (jg6 hr)]
     refine rgx [4] ?_
     exact retF
    ·intro hr
     rw [if_neg (fun h=>h (jg2 hr))]
     by_cases hw:w=0
     ·have dw:decide (w=0)=true:=decide_eq_true hw
      rw [if_neg (fun h=>h hw)]
      by_cases hv:v=0
      ·have dv:decide (v=0)=true:=decide_eq_true hv
       rw [if_neg (fun h=>h hv)]
       have hk:=hk hw
       have hy:=jw3 hk
       by_cases h2:e.k=2
       ·have d2:decide ((e.k:Int)=2)=true:=decide_eq_true (by omega)
        have km:=kz0 s e c y r hs hc hk hl
        rw [if_pos h2]
        generalize memE s e c y r=x at *
        have hX:=And.intro jb7 (And.intro jb3 (And.intro jc9 (And.intro ja3 (And.intro d1 (And.intro d2 (And.intro dw (dv)))))))
        refine ja6 ?_
        have hK:=And.intro (k4) (And.intro (k5) (And.intro (km) trivial));refine rgx [0,3,11,12] ?_
        refine rgx [0,3,11,12,70] ?_
        refine iffs ?_
        refine rgx [0,3,11,12,13] ?_
        refine rgx [0,3,11,12,13,78] ?_
        refine iffs ?_
        refine rgx [0,3,11,13,82] ?_
        refine iftx ?_
        refine rgx [4] ?_
        exact retF
       ·have d2:decide ((e.k:Int)=2)=false:=decide_eq_false (by omega)
        rw [if_neg h2]
        have km:=jw7 s e.s hn
        have kf:=jp5 y e.s hy.2
        have ks:=kn7 y y e.s hy.1 hy.1 hy.2 hy.2
        rw [qu9 hk] at ks
        generalize memC s e.s=m at *
        have hX:=And.intro jb7 (And.intro jb3 (And.intro jc9 (And.intro ja3 (And.intro d1 (And.intro d2 (And.intro dw (dv)))))))
        refine ja6 ?_
        have hK:=And.intro (k4) (And.intro (k5) (And.intro (km) trivial));refine rgx [0,3,11,12] ?_
        refine rgx [0,3,11,12,70] ?_
        refine iffs ?_
        refine rgx [0,3,11,12,13] ?_
        refine rgx [0,3,11,12,13,78] ?_
        refine iffs ?_
        refine rgx [0,3,11,13,82] ?_
        refine iffs ?_
        refine rgx [3,11,92] ?_
        refine ifx ?_ ?_
        ·intro hj
         rw [if_pos (show ¬m=joT from jg6 hj)]
         refine rgx [4] ?_
         exact retF
        ·intro hj
         rw [if_neg (fun h=>h (show m=joT from jg2 hj))]
         have hX:=And.intro jb7 (And.intro jb3 (And.intro jc9 (And.intro ja3 (jb1))))
         refine ja6 ?_
         have hK:=And.intro (kf) trivial;refine rqx [3,11,14,15] ?_
         refine rgx [3,11,14,15,16] ?_
         refine rgx [3,11,14,15,16,101] ?_
         have hkk:=hb.2.2.1
         unfold knB at hkk
         rw [decide_eq_true_eq] at hkk
         unfold doeE
         by_cases h6:e.k=6
         ·have d6:decide ((e.k:Int)=6)=true:=decide_eq_true (by omega)
          rw [if_neg (by omega),if_neg (by omega),if_neg (by omega),if_neg (by omega),if_neg (by omega)]
          have hX:=And.intro jc9 (d6)
          refine rgx [3,11,14,15,16,101,102] ?_
          refine iftx ?_
          refine rgx [4] ?_
          exact retF
         have d6:decide ((e.k:Int)=6)=false:=decide_eq_false (by omega)
         by_cases h7:e.k=7
         ·have d7:decide ((e.k:Int)=7)=true:=decide_eq_true (by omega)
          rw [if_neg (by omega),if_neg (by omega),if_neg (by omega),if_neg (by omega),if_pos h7]
          by_cases hlt:ofL y e.s<y.r
          ·have dl:decide (ofL y e.s<y.r)=true:=decide_eq_true hlt
           rw [jy8 hlt]
           have hX:=And.intro jc9 (And.intro d6 (And.intro d7 (dl)))
           refine rgx [3,11,14,15,16,101,102] ?_
           refine iffx ?_
           refine rgx [3,11,14,15,16,101,104] ?_
           refine iftx ?_
           refine rgx [3,11,14,15,16] ?_
           refine rgx [3,11,16,136] ?_
           refine iftx ?_
           refine rgx [4] ?_
           exact retF
          ·have dl:decide (ofL y e.s<y.r)=false:=decide_eq_false hlt
           rw [jy7 hlt]
           have hX:=And.intro jc9 (And.intro d6 (And.intro d7 (dl)))
           have hK:=And.intro (ks) trivial;refine rgx [3,11,14,15,16,101,102] ?_
           refine iffx ?_
           refine rgx [3,11,14,15,16,101,104] ?_
           refine iftx ?_
           refine rgx [3,11,14,15,16] ?_
           refine rgx [3,11,16,136] ?_
           refine iffs ?_
           refine rgx [4] ?_
           exact retF
         have d7:decide ((e.k:Int)=7)=false:=decide_eq_false (by omega)
         by_cases h3:e.k=3
         ·have d3:decide ((e.k:Int)=3)=true:=decide_eq_true (by omega)
          rw [if_pos h3]
          have kp:=kw5 e.b (by have:=hb.2.2.2.2;omega)
          unfold lvR at kp
          by_cases hp:(parL e.b).2=0
          ·have hz:=jw3 (kl5 hp).1
           have kc:=kn7 y (parL e.b).1 e.s hy.1 hz.1 hy.2 hz.2
           rw [hp] at kp
           rw [decide_eq_true hp]
           generalize (parL e.b).1=z at *
           have kp:PC (ja0 Tryz.prog) 57 [.v (.string (B e.b))] (.tup (.cons (lvD z) (.cons (.v (.int .i64 0)) .nil))):=kp
           rw [show frmE e y true=enoE e y y.s from rfl]
           by_cases hlt:ofL y e.s<y.s
           ·have dl:decide (ofL y e.s<y.s)=true:=decide_eq_true hlt
            rw [jy8 hlt,if_neg (by decide)]
            have hX:=And.intro jc9 (And.intro d6 (And.intro d7 (And.intro d3 (dl))))
            have hK:=And.intro (kp) trivial;refine rgx [3,11,14,15,16,101,102] ?_
            refine iffx ?_
            refine rgx [3,11,14,15,16,101,104] ?_
            refine iffx ?_
            refine rgx [3,11,14,15,16,101,108] ?_
            refine iftx ?_
            refine rgx [3,11,12,14,15,16] ?_
            refine rgx [3,11,14,15,16,117] ?_
            refine iffs ?_
            refine rgx [3,11,16,136] ?_
            refine iftx ?_
            refine rgx [4] ?_
            exact retF
           ·have dl:decide (ofL y e.s<y.s)=false:=decide_eq_false hlt
            rw [jy7 hlt,if_pos rfl]
            generalize chgE y z e.s=x at *
            have hX:=And.intro jc9 (And.intro d6 (And.intro d7 (And.intro d3 (dl))))
            have hK:=And.intro (kp) (And.intro (kc) trivial);refine rgx [3,11,14,15,16,101,102] ?_
            refine iffx ?_
            refine rgx [3,11,14,15,16,101,104] ?_
            refine iffx ?_
            refine rgx [3,11,14,15,16,101,108] ?_
            refine iftx ?_
            refine rgx [3,11,12,14,15,16] ?_
            refine rgx [3,11,14,15,16,117] ?_
            refine iffs ?_
            refine rgx [3,11,16,136] ?_
            refine iffs ?_
            refine rgx [4] ?_
            exact retF
          ·have dp:decide ((parL e.b).2=0)=false:=decide_eq_false hp
           rw [dp,kg7,if_neg (by decide)]
           generalize (parL e.b).1=z at *
           generalize (parL e.b).2=q at *
           have kp:PC (ja0 Tryz.prog) 57 [.v (.string (B e.b))] (.tup (.cons (lvD z) (.cons (.v (.int .i64 q)) .nil))):=kp
           have hX:=And.intro jc9 (And.intro d6 (And.intro d7 (And.intro d3 (dp))))
           have hK:=And.intro (kp) trivial;refine rgx [3,11,14,15,16,101,102] ?_
           refine iffx ?_
           refine rgx [3,11,14,15,16,101,104] ?_
           refine iffx ?_
           refine rgx [3,11,14,15,16,101,108] ?_
           refine iftx ?_
           refine rgx [3,11,12,14,15,16] ?_
           refine rgx [3,11,14,15,16,117] ?_
           refine iftx ?_
           refine rgx [4] ?_
           exact retF
         have d3:decide ((e.k:Int)=3)=false:=decide_eq_false (by omega)
         rw [if_neg h3]
         by_cases h4:e.k=4
         ·have d4:decide ((e.k:Int)=4)=true:=decide_eq_true (by omega)
          rw [if_pos h4]
          have kr:PC (ja0 Tryz.prog) 58 [.v (.string (B e.b))] (bD (rulM e.b)):=kl7 e.b
          cases hq:rulM e.b
          ·rw [hq] at kr
           rw [kg7]
           have hX:=And.intro jc9 (And.intro d6 (And.intro d7 (And.intro d3 (d4))))
           have hK:=And.intro (kr) trivial;refine rgx [3,11,14,15,16,101,102] ?_
           refine iffx ?_
           refine rgx [3,11,14,15,16,101,104] ?_
           refine iffx ?_
           refine rgx [3,11,14,15,16,101,108] ?_
           refine iffx ?_
           refine rgx [3,11,14,15,16,101,118] ?_
           refine iftx ?_
           refine rgx [3,11,14,15,16,123] ?_
           refine iftx ?_
           refine rgx [4] ?_
           exact retF
          ·rw [hq] at kr
           rw [show frmE e y true=enoE e y y.s from rfl]
           by_cases hlt:ofL y e.s<y.s
           ·have dl:decide (ofL y e.s<y.s)=true:=decide_eq_true hlt
            rw [jy8 hlt]
            have hX:=And.intro jc9 (And.intro d6 (And.intro d7 (And.intro d3 (And.intro d4 (dl)))))
            have hK:=And.intro (kr) trivial;refine rgx [3,11,14,15,16,101,102] ?_
            refine iffx ?_
            refine rgx [3,11,14,15,16,101,104] ?_
            refine iffx ?_
            refine rgx [3,11,14,15,16,101,108] ?_
            refine iffx ?_
            refine rgx [3,11,14,15,16,101,118] ?_
            refine iftx ?_
            refine rgx [3,11,14,15,16,123] ?_
            refine iffs ?_
            refine rgx [3,11,16,136] ?_
            refine iftx ?_
            refine rgx [4] ?_
            exact retF
           ·have dl:decide (ofL y e.s<y.s)=false:=decide_eq_false hlt
            rw [jy7 hlt]
            have hX:=And.intro jc9 (And.intro d6 (And.intro d7 (And.intro d3 (And.intro d4 (dl)))))
            have hK:=And.intro (kr) (And.intro (ks) trivial);refine rgx [3,11,14,15,16,101,102] ?_
            refine iffx ?_
            refine rgx [3,11,14,15,16,101,104] ?_
            refine iffx ?_
            refine rgx [3,11,14,15,16,101,108] ?_
            refine iffx ?_
            refine rgx [3,11,14,15,16,101,118] ?_
            refine iftx ?_
            refine rgx [3,11,14,15,16,123] ?_
            refine iffs ?_
            refine rgx [3,11,16,136] ?_
            refine iffs ?_
            refine rgx [4] ?_
            exact retF
         have d4:decide ((e.k:Int)=4)=false:=decide_eq_false (by omega)
         rw [if_neg h4]
         by_cases h8:e.k=8
         ·have d8:decide ((e.k:Int)=8)=true:=decide_eq_true (by omega)
          rw [if_pos h8]
          have kx:=qe8 e.b (by have:=hb.2.2.2.2;omega)
          unfold cuD at kx
          generalize (numO 63 e.b).1=n at *
          generalize (numO 63 e.b).2=b at *
          cases b
          ·have kx:PC (ja0 Tryz.prog) 27 [.v (.string (B e.b))] (.tup (.cons (.v (.int .i64 (n:Int))) (.cons (.v (.bool false)) .nil))):=kx
           rw [kg7]
           have hX:=And.intro jc9 (And.intro d6 (And.intro d7 (And.intro d3 (And.intro d4 (d8)))))
           have hK:=And.intro (kx) trivial;refine rgx [3,11,14,15,16,101,102] ?_
           refine iffx ?_
           refine rgx [3,11,14,15,16,101,104] ?_
           refine iffx ?_
           refine rgx [3,11,14,15,16,101,108] ?_
           refine iffx ?_
           refine rgx [3,11,14,15,16,101,118] ?_
           refine iffx ?_
           refine rgx [3,11,14,15,16,124] ?_
           refine iftx ?_
           refine rgx [3,11,14,15,16,18] ?_
           refine rgx [3,11,14,15,16,133] ?_
           refine iftx ?_
           refine rgx [4] ?_
           exact retF
          ·have kx:PC (ja0 Tryz.prog) 27 [.v (.string (B e.b))] (.tup (.cons (.v (.int .i64 (n:Int))) (.cons (.v (.bool true)) .nil))):=kx
           rw [show frmE e y true=enoE e y y.s from rfl]
           by_cases hlt:ofL y e.s<y.s
           ·have dl:decide (ofL y e.s<y.s)=true:=decide_eq_true hlt
            rw [jy8 hlt]
            have hX:=And.intro jc9 (And.intro d6 (And.intro d7 (And.intro d3 (And.intro d4 (And.intro d8 (dl))))))
            have hK:=And.intro (kx) trivial;refine rgx [3,11,14,15,16,101,102] ?_
            refine iffx ?_
            refine rgx [3,11,14,15,16,101,104] ?_
            refine iffx ?_
            refine rgx [3,11,14,15,16,101,108] ?_
            refine iffx ?_
            refine rgx [3,11,14,15,16,101,118] ?_
            refine iffx ?_
            refine rgx [3,11,14,15,16,124] ?_
            refine iftx ?_
            refine rgx [3,11,14,15,16,18] ?_
            refine rgx [3,11,14,15,16,133] ?_
            refine iffs ?_
            refine rgx [3,11,16,136] ?_
            refine iftx ?_
            refine rgx [4] ?_
            exact retF
           ·have dl:decide (ofL y e.s<y.s)=false:=decide_eq_false hlt
            rw [jy7 hlt]
            have hX:=And.intro jc9 (And.intro d6 (And.intro d7 (And.intro d3 (And.intro d4 (And.intro d8 (dl))))))
            have hK:=And.intro (kx) (And.intro (ks) trivial);refine rgx [3,11,14,15,16,101,102] ?_
            refine iffx ?_
            refine rgx [3,11,14,15,16,101,104] ?_
            refine iffx ?_
            refine rgx [3,11,14,15,16,101,108] ?_
            refine iffx ?_
            refine rgx [3,11,14,15,16,101,118] ?_
            refine iffx ?_
            refine rgx [3,11,14,15,16,124] ?_
            refine iftx ?_
            refine rgx [3,11,14,15,16,18] ?_
            refine rgx [3,11,14,15,16,133] ?_
            refine iffs ?_
            refine rgx [3,11,16,136] ?_
            refine iffs ?_
            refine rgx [4] ?_
            exact retF
         have d8:decide ((e.k:Int)=8)=false:=decide_eq_false (by omega)
         rw [if_neg h8,if_pos (show e.k=5 by omega)]
         rw [show frmE e y true=enoE e y y.s from rfl]
         by_cases hlt:ofL y e.s<y.s
         ·have dl:decide (ofL y e.s<y.s)=true:=decide_eq_true hlt
          rw [jy8 hlt]
          have hX:=And.intro jc9 (And.intro d6 (And.intro d7 (And.intro d3 (And.intro d4 (And.intro d8 (dl))))))
          refine rgx [3,11,14,15,16,101,102] ?_
          refine iffx ?_
          refine rgx [3,11,14,15,16,101,104] ?_
          refine iffx ?_
          refine rgx [3,11,14,15,16,101,108] ?_
          refine iffx ?_
          refine rgx [3,11,14,15,16,101,118] ?_
          refine iffx ?_
          refine rgx [3,11,14,15,16,124] ?_
          refine iffs ?_
          refine rgx [3,11,16,136] ?_
          refine iftx ?_
          refine rgx [4] ?_
          exact retF
         ·have dl:decide (ofL y e.s<y.s)=false:=decide_eq_false hlt
          rw [jy7 hlt]
          have hX:=And.intro jc9 (And.intro d6 (And.intro d7 (And.intro d3 (And.intro d4 (And.intro d8 (dl))))))
          have hK:=And.intro (ks) trivial;refine rgx [3,11,14,15,16,101,102] ?_
          refine iffx ?_
          refine rgx [3,11,14,15,16,101,104] ?_
          refine iffx ?_
          refine rgx [3,11,14,15,16,101,108] ?_
          refine iffx ?_
          refine rgx [3,11,14,15,16,101,118] ?_
          refine iffx ?_
          refine rgx [3,11,14,15,16,124] ?_
          refine iffs ?_
          refine rgx [3,11,16,136] ?_
          refine iffs ?_
          refine rgx [4] ?_
          exact retF
      ·have dv:decide (v=0)=false:=decide_eq_false hv
       rw [if_pos hv]
       have hX:=And.intro jb7 (And.intro jb3 (And.intro jc9 (And.intro ja3 (And.intro d1 (And.intro dw (dv))))))
       refine ja6 ?_
       have hK:=And.intro (k4) (And.intro (k5) trivial);refine rgx [0,3,11,12] ?_
       refine rgx [0,3,11,12,70] ?_
       refine iffs ?_
       refine rgx [0,3,11,12,13] ?_
       refine rgx [0,3,11,12,13,78] ?_
       refine iftx ?_
       refine rgx [4] ?_
       exact retF
     ·have dw:decide (w=0)=false:=decide_eq_false hw
      rw [if_pos hw]
      have hX:=And.intro jb7 (And.intro jb3 (And.intro jc9 (And.intro ja3 (And.intro d1 (dw)))))
      refine ja6 ?_
      have hK:=And.intro (k4) (And.intro (k5) trivial);refine rgx [0,3,11,12] ?_
      refine rgx [0,3,11,12,70] ?_
      refine iftx ?_
      refine rgx [4] ?_
      exact retF
  ·rw [qb8 h0] at k2
   rw [if_pos (fun h=>h0 h.2)]
   have hX:=and_true;refine pcx Tryz.func23 rfl Tryz.ntmps23 Tryz.results23 rfl ?_;intro w0 A
   have hX:=And.intro jb7 (And.intro jb3 (and_true))
   have hK:=And.intro (k1) (And.intro (k2) trivial);refine rgx [0,3] ?_
   refine rggx [0,3,26] ?_
   refine iftx ?_
   refine rgx [4] ?_
   exact retF
 ·rw [ji7 hc] at k1
  rw [if_pos (fun h=>hc h.1)]
  have hX:=and_true;refine pcx Tryz.func23 rfl Tryz.ntmps23 Tryz.results23 rfl ?_;intro w0 A
  have hX:=And.intro jb7 (And.intro jb3 (and_true))
  have hK:=And.intro (k1) trivial;refine rgx [0,3] ?_
  refine rggx [0,3,26] ?_
  refine iftx ?_
  refine rgx [4] ?_
  exact retF
end Go.Proofs.YthphphlbedlicaaGreatDoor
