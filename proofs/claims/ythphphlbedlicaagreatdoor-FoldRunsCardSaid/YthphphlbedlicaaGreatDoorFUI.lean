/- Auth: whether an event may be (package auth). -/
import Derived.Test.YthphphlbedlicaaGreatDoorFPD
import Derived.Test.YthphphlbedlicaaGreatDoorFWH
import Derived.Test.YthphphlbedlicaaGreatDoorFPH
import Derived.Test.YthphphlbedlicaaGreatDoorFMA
set_option linter.unusedSimpArgs false
set_option linter.unusedVariables false
set_option maxRecDepth 10000
namespace Go.Proofs.YthphphlbedlicaaGreatDoor
open Go.RowKit
set_option maxHeartbeats 32000000 in
theorem qh8 (s:List Cl) (e:Ev) (hs:ccB s) (he:evB e):PC (ja0 Tryz.prog) 19 [ccD s,evtD e] (iD (alwE s e)):=by
 have k1:=jx0 s hs
 have k2:=qb9 e he.1 he.2.1 he.2.2.1
 unfold alwE
 by_cases hc:chkC s=0
 ·rw [hc] at k1
  by_cases h0:evE e=0
  ·rw [h0] at k2
   rw [if_neg (fun h=>h ⟨hc,h0⟩)]
   have hn:s.length≤140737488351232:=by have:=(jg9 hc).1;omega
   by_cases h1:e.k=1
   ·have kc:=qm4 s e he hn
    rw [if_pos h1]
    generalize creE s e=w at *
    have d1:decide ((e.k:Int)=1)=true:=decide_eq_true (by omega)
    have kx:PC (ja0 Tryz.prog) 36 [ccD s,evtD e] (iD w):=kc
    have hX:=and_true;refine pcx Tryz.func19 rfl Tryz.ntmps19 Tryz.results19 rfl ?_;intro w0 A
    have hX:=And.intro jb7 (And.intro jb3 (And.intro ja7 (And.intro ja3 (d1))))
    have hK:=And.intro (k1) (And.intro (k2) (And.intro (kx) trivial));refine rgx [0,3] ?_
    refine rggx [0,3,15] ?_
    refine iffs ?_
    refine rgx [0,3,18] ?_
    refine iftx ?_
    refine rgx [4] ?_
    exact retF
   have d1:decide ((e.k:Int)=1)=false:=decide_eq_false (by omega)
   rw [if_neg h1]
   have k3:=ki4 s 1 [] hs
   rw [ju3 hc] at k3
   cases hl:lkC s 1 [] with
   | none =>
    rw [hl] at k3
    have k3:PC (ja0 Tryz.prog) 37 [ccD s,.v (.int .u8 1),.v (.string (B []))] (.tup (.cons (evtD evz) (.cons (.v (.int .i64 3)) .nil))):=k3
    simp only
    have hX:=and_true;refine pcx Tryz.func19 rfl Tryz.ntmps19 Tryz.results19 rfl ?_;intro w0 A
    have hX:=And.intro jb7 (And.intro jb3 (And.intro ja3 (d1)))
    have hK:=And.intro (k1) (And.intro (k2) (And.intro (k3) trivial));refine rgx [0,3] ?_
    refine rggx [0,3,15] ?_
    refine iffs ?_
    refine rgx [0,3,18] ?_
    refine iffs ?_
    refine rgx [0,3,5,6] ?_
    refine rggx [0,3,5,35] ?_
    refine iftx ?_
    refine rgx [4] ?_
    exact retF
   | some c =>
    rw [hl] at k3
    have k3:PC (ja0 Tryz.prog) 37 [ccD s,.v (.int .u8 1),.v (.string (B []))] (.tup (.cons (evtD c) (.cons (.v (.int .i64 0)) .nil))):=k3
    simp only
    have k4:=qm5 s hs
    have k5:=vc7 s hs
    have hk:∀h:(levC s).2=0,dkB ⟨e,s,c,(levC s).1,(rulC s).1⟩:=fun h=>⟨ju0 h0,hs,hc,qo9 h⟩
    unfold lvR at k4
    unfold seD at k5
    generalize (levC s).1=y at *
    generalize (levC s).2=w at *
    generalize (rulC s).1=r at *
    generalize (rulC s).2=v at *
    have k5:PC (ja0 Tryz.prog) 39 [ccD s] (.tup (.cons (.v (.string (B r))) (.cons (.v (.int .i64 v)) .nil))):=k5
    have hX:=and_true;refine pcx Tryz.func19 rfl Tryz.ntmps19 Tryz.results19 rfl ?_;intro w0 A
    have hX:=And.intro jb7 (And.intro jb3 (And.intro ja3 (d1)))
    have hK:=And.intro (k1) (And.intro (k2) (And.intro (k3) trivial));refine rgx [0,3] ?_
    refine rggx [0,3,15] ?_
    refine iffs ?_
    refine rgx [0,3,18] ?_
    refine iffs ?_
    refine rgx [0,3,5,6] ?_
    refine rggx [0,3,5,35] ?_
    refine ifx ?_ ?_
    ·intro hr
     rw [if_pos (jg6 hr)]
     refine rgx [4] ?_
     exact retF
    ·intro hr
     rw [if_neg (fun h=>h (jg2 hr))]
     by_cases hw:w=0
     ·have dw:decide (w=0)=true:=decide_eq_true hw
      rw [if_neg (fun h=>h hw)]
      by_cases hv:v=0
      ·have dv:decide (v=0)=true:=decide_eq_true hv
       rw [if_neg (fun h=>h hv)]
       have hk:=hk hw
       by_cases h2:e.k=2
       ·have d2:decide ((e.k:Int)=2)=true:=decide_eq_true (by omega)
        have km:=qn5 _ hk
        rw [if_pos h2]
        change PC _ _ _ (iD (memE s e c y r)) at km
        generalize memE s e c y r=x at *
        have hX:=And.intro jb7 (And.intro jb3 (And.intro jc9 (And.intro ja3 (And.intro d1 (And.intro d2 (And.intro dw (dv)))))))
        refine ja6 ?_
        refine regX [0,3,7] ?_;intro w0 A S0 f0;(repeat ((with_reducible show DR _ _ _ (_::_) _);first|(refine cx _ (envG _ _ _ _ _ _) rfl rfl rfl rfl rfl ?_ (hc:=by first|exact k4|exact k5))|(refine clx (d:=iD x) (xs:=[.ptr 2 0]) (ys:=[.ip (dkD ⟨e,s,c,y,r⟩)]) _ (envG _ _ _ _ _ _) (.cons (jf6 (d:=dkD ⟨e,s,c,y,r⟩) rfl rfl) .nil) km rfl rfl rfl rfl rfl rfl ?_)|(refine sx ?_)));refine ja1 ?_;refine kl1 ?_
        refine regX [0,3,6,7] ?_;intro w0 A S0 f0;(repeat ((with_reducible show DR _ _ _ (_::_) _);first|(refine cx _ (envG _ _ _ _ _ _) rfl rfl rfl rfl rfl ?_ (hc:=by first|exact k4|exact k5))|(refine clx (d:=iD x) (xs:=[.ptr 2 0]) (ys:=[.ip (dkD ⟨e,s,c,y,r⟩)]) _ (envG _ _ _ _ _ _) (.cons (jf6 (d:=dkD ⟨e,s,c,y,r⟩) rfl rfl) .nil) km rfl rfl rfl rfl rfl rfl ?_)|(refine sx ?_)));refine ja1 ?_;refine kl1 ?_
        refine regX [0,3,6,7,50] ?_;intro w0 A S0 f0;(repeat ((with_reducible show DR _ _ _ (_::_) _);first|(refine cx _ (envG _ _ _ _ _ _) rfl rfl rfl rfl rfl ?_ (hc:=by first|exact k4|exact k5))|(refine clx (d:=iD x) (xs:=[.ptr 2 0]) (ys:=[.ip (dkD ⟨e,s,c,y,r⟩)]) _ (envG _ _ _ _ _ _) (.cons (jf6 (d:=dkD ⟨e,s,c,y,r⟩) rfl rfl) .nil) km rfl rfl rfl rfl rfl rfl ?_)|(refine sx ?_)));refine ja1 ?_;refine kl1 ?_
        refine iffs ?_
        refine regX [3,6,7] ?_;intro w0 A S0 f0;(repeat ((with_reducible show DR _ _ _ (_::_) _);first|(refine cx _ (envG _ _ _ _ _ _) rfl rfl rfl rfl rfl ?_ (hc:=by first|exact k4|exact k5))|(refine clx (d:=iD x) (xs:=[.ptr 2 0]) (ys:=[.ip (dkD ⟨e,s,c,y,r⟩)]) _ (envG _ _ _ _ _ _) (.cons (jf6 (d:=dkD ⟨e,s,c,y,r⟩) rfl rfl) .nil) km rfl rfl rfl rfl rfl rfl ?_)|(refine sx ?_)));refine ja1 ?_;refine kl1 ?_
        refine regX [3,6,7,61] ?_;intro w0 A S0 f0;(repeat ((with_reducible show DR _ _ _ (_::_) _);first|(refine cx _ (envG _ _ _ _ _ _) rfl rfl rfl rfl rfl ?_ (hc:=by first|exact k4|exact k5))|(refine clx (d:=iD x) (xs:=[.ptr 2 0]) (ys:=[.ip (dkD ⟨e,s,c,y,r⟩)]) _ (envG _ _ _ _ _ _) (.cons (jf6 (d:=dkD ⟨e,s,c,y,r⟩) rfl rfl) .nil) km rfl rfl rfl rfl rfl rfl ?_)|(refine sx ?_)));refine ja1 ?_;refine kl1 ?_
        refine iffs ?_
        refine regX [3,7,63] ?_;intro w0 A S0 f0;(repeat ((with_reducible show DR _ _ _ (_::_) _);first|(refine cx _ (envG _ _ _ _ _ _) rfl rfl rfl rfl rfl ?_ (hc:=by first|exact k4|exact k5))|(refine clx (d:=iD x) (xs:=[.ptr 2 0]) (ys:=[.ip (dkD ⟨e,s,c,y,r⟩)]) _ (envG _ _ _ _ _ _) (.cons (jf6 (d:=dkD ⟨e,s,c,y,r⟩) rfl rfl) .nil) km rfl rfl rfl rfl rfl rfl ?_)|(refine sx ?_)));refine ja1 ?_;refine kl1 ?_
        refine iftx ?_
        refine regX [4] ?_;intro w0 A S0 f0;(repeat ((with_reducible show DR _ _ _ (_::_) _);first|(refine cx _ (envG _ _ _ _ _ _) rfl rfl rfl rfl rfl ?_ (hc:=by first|exact k4|exact k5))|(refine clx (d:=iD x) (xs:=[.ptr 2 0]) (ys:=[.ip (dkD ⟨e,s,c,y,r⟩)]) _ (envG _ _ _ _ _ _) (.cons (jf6 (d:=dkD ⟨e,s,c,y,r⟩) rfl rfl) .nil) km rfl rfl rfl rfl rfl rfl ?_)|(refine sx ?_)));refine ja1 ?_;refine kl1 ?_
        exact retF
       ·have d2:decide ((e.k:Int)=2)=false:=decide_eq_false (by omega)
        rw [if_neg h2]
        have km:=qi6 ⟨e,s,c,y,r⟩ e.s hn
        have kd:=vd9 _ hk
        change PC _ _ _ (strD (memC s e.s)) at km
        change PC _ _ _ (iD (doeE e y)) at kd
        generalize memC s e.s=m at *
        generalize doeE e y=x at *
        have hX:=And.intro jb7 (And.intro jb3 (And.intro jc9 (And.intro ja3 (And.intro d1 (And.intro d2 (And.intro dw (dv)))))))
        refine ja6 ?_
        refine regX [0,3,7] ?_;intro w0 A S0 f0;(repeat ((with_reducible show DR _ _ _ (_::_) _);first|(refine cx _ (envG _ _ _ _ _ _) rfl rfl rfl rfl rfl ?_ (hc:=by first|exact k4|exact k5))|(refine clx (d:=strD m) (xs:=[.ptr 2 0,strD e.s]) (ys:=[.ip (dkD ⟨e,s,c,y,r⟩),strD e.s]) _ (envG _ _ _ _ _ _) (.cons (jf6 (d:=dkD ⟨e,s,c,y,r⟩) rfl rfl) (.cons (LeP.refl rfl).le .nil)) km rfl rfl rfl rfl rfl rfl ?_)|(refine clx (d:=iD x) (xs:=[.ptr 2 0]) (ys:=[.ip (dkD ⟨e,s,c,y,r⟩)]) _ (envG _ _ _ _ _ _) (.cons (jf6 (d:=dkD ⟨e,s,c,y,r⟩) rfl rfl) .nil) kd rfl rfl rfl rfl rfl rfl ?_)|(refine sx ?_)));refine ja1 ?_;refine kl1 ?_
        refine regX [0,3,6,7] ?_;intro w0 A S0 f0;(repeat ((with_reducible show DR _ _ _ (_::_) _);first|(refine cx _ (envG _ _ _ _ _ _) rfl rfl rfl rfl rfl ?_ (hc:=by first|exact k4|exact k5))|(refine clx (d:=strD m) (xs:=[.ptr 2 0,strD e.s]) (ys:=[.ip (dkD ⟨e,s,c,y,r⟩),strD e.s]) _ (envG _ _ _ _ _ _) (.cons (jf6 (d:=dkD ⟨e,s,c,y,r⟩) rfl rfl) (.cons (LeP.refl rfl).le .nil)) km rfl rfl rfl rfl rfl rfl ?_)|(refine clx (d:=iD x) (xs:=[.ptr 2 0]) (ys:=[.ip (dkD ⟨e,s,c,y,r⟩)]) _ (envG _ _ _ _ _ _) (.cons (jf6 (d:=dkD ⟨e,s,c,y,r⟩) rfl rfl) .nil) kd rfl rfl rfl rfl rfl rfl ?_)|(refine sx ?_)));refine ja1 ?_;refine kl1 ?_
        refine regX [0,3,6,7,50] ?_;intro w0 A S0 f0;(repeat ((with_reducible show DR _ _ _ (_::_) _);first|(refine cx _ (envG _ _ _ _ _ _) rfl rfl rfl rfl rfl ?_ (hc:=by first|exact k4|exact k5))|(refine clx (d:=strD m) (xs:=[.ptr 2 0,strD e.s]) (ys:=[.ip (dkD ⟨e,s,c,y,r⟩),strD e.s]) _ (envG _ _ _ _ _ _) (.cons (jf6 (d:=dkD ⟨e,s,c,y,r⟩) rfl rfl) (.cons (LeP.refl rfl).le .nil)) km rfl rfl rfl rfl rfl rfl ?_)|(refine clx (d:=iD x) (xs:=[.ptr 2 0]) (ys:=[.ip (dkD ⟨e,s,c,y,r⟩)]) _ (envG _ _ _ _ _ _) (.cons (jf6 (d:=dkD ⟨e,s,c,y,r⟩) rfl rfl) .nil) kd rfl rfl rfl rfl rfl rfl ?_)|(refine sx ?_)));refine ja1 ?_;refine kl1 ?_
        refine iffs ?_
        refine regX [3,6,7] ?_;intro w0 A S0 f0;(repeat ((with_reducible show DR _ _ _ (_::_) _);first|(refine cx _ (envG _ _ _ _ _ _) rfl rfl rfl rfl rfl ?_ (hc:=by first|exact k4|exact k5))|(refine clx (d:=strD m) (xs:=[.ptr 2 0,strD e.s]) (ys:=[.ip (dkD ⟨e,s,c,y,r⟩),strD e.s]) _ (envG _ _ _ _ _ _) (.cons (jf6 (d:=dkD ⟨e,s,c,y,r⟩) rfl rfl) (.cons (LeP.refl rfl).le .nil)) km rfl rfl rfl rfl rfl rfl ?_)|(refine clx (d:=iD x) (xs:=[.ptr 2 0]) (ys:=[.ip (dkD ⟨e,s,c,y,r⟩)]) _ (envG _ _ _ _ _ _) (.cons (jf6 (d:=dkD ⟨e,s,c,y,r⟩) rfl rfl) .nil) kd rfl rfl rfl rfl rfl rfl ?_)|(refine sx ?_)));refine ja1 ?_;refine kl1 ?_
        refine regX [3,6,7,61] ?_;intro w0 A S0 f0;(repeat ((with_reducible show DR _ _ _ (_::_) _);first|(refine cx _ (envG _ _ _ _ _ _) rfl rfl rfl rfl rfl ?_ (hc:=by first|exact k4|exact k5))|(refine clx (d:=strD m) (xs:=[.ptr 2 0,strD e.s]) (ys:=[.ip (dkD ⟨e,s,c,y,r⟩),strD e.s]) _ (envG _ _ _ _ _ _) (.cons (jf6 (d:=dkD ⟨e,s,c,y,r⟩) rfl rfl) (.cons (LeP.refl rfl).le .nil)) km rfl rfl rfl rfl rfl rfl ?_)|(refine clx (d:=iD x) (xs:=[.ptr 2 0]) (ys:=[.ip (dkD ⟨e,s,c,y,r⟩)]) _ (envG _ _ _ _ _ _) (.cons (jf6 (d:=dkD ⟨e,s,c,y,r⟩) rfl rfl) .nil) kd rfl rfl rfl rfl rfl rfl ?_)|(refine sx ?_)));refine ja1 ?_;refine kl1 ?_
        refine iffs ?_
        refine regX [3,7,63] ?_;intro w0 A S0 f0;(repeat ((with_reducible show DR _ _ _ (_::_) _);first|(refine cx _ (envG _ _ _ _ _ _) rfl rfl rfl rfl rfl ?_ (hc:=by first|exact k4|exact k5))|(refine clx (d:=strD m) (xs:=[.ptr 2 0,strD e.s]) (ys:=[.ip (dkD ⟨e,s,c,y,r⟩),strD e.s]) _ (envG _ _ _ _ _ _) (.cons (jf6 (d:=dkD ⟨e,s,c,y,r⟩) rfl rfl) (.cons (LeP.refl rfl).le .nil)) km rfl rfl rfl rfl rfl rfl ?_)|(refine clx (d:=iD x) (xs:=[.ptr 2 0]) (ys:=[.ip (dkD ⟨e,s,c,y,r⟩)]) _ (envG _ _ _ _ _ _) (.cons (jf6 (d:=dkD ⟨e,s,c,y,r⟩) rfl rfl) .nil) kd rfl rfl rfl rfl rfl rfl ?_)|(refine sx ?_)));refine ja1 ?_;refine kl1 ?_
        refine iffx ?_
        refine regX [7,69] ?_;intro w0 A S0 f0;(repeat ((with_reducible show DR _ _ _ (_::_) _);first|(refine cx _ (envG _ _ _ _ _ _) rfl rfl rfl rfl rfl ?_ (hc:=by first|exact k4|exact k5))|(refine clx (d:=strD m) (xs:=[.ptr 2 0,strD e.s]) (ys:=[.ip (dkD ⟨e,s,c,y,r⟩),strD e.s]) _ (envG _ _ _ _ _ _) (.cons (jf6 (d:=dkD ⟨e,s,c,y,r⟩) rfl rfl) (.cons (LeP.refl rfl).le .nil)) km rfl rfl rfl rfl rfl rfl ?_)|(refine clx (d:=iD x) (xs:=[.ptr 2 0]) (ys:=[.ip (dkD ⟨e,s,c,y,r⟩)]) _ (envG _ _ _ _ _ _) (.cons (jf6 (d:=dkD ⟨e,s,c,y,r⟩) rfl rfl) .nil) kd rfl rfl rfl rfl rfl rfl ?_)|(refine sx ?_)));refine ja1 ?_;refine kl1 ?_
        refine ifx ?_ ?_
        ·intro hj
         rw [if_pos (show ¬m=joT from jg6 hj)]
         refine regX [4] ?_;intro w0 A S0 f0;(repeat ((with_reducible show DR _ _ _ (_::_) _);first|(refine cx _ (envG _ _ _ _ _ _) rfl rfl rfl rfl rfl ?_ (hc:=by first|exact k4|exact k5))|(refine clx (d:=strD m) (xs:=[.ptr 2 0,strD e.s]) (ys:=[.ip (dkD ⟨e,s,c,y,r⟩),strD e.s]) _ (envG _ _ _ _ _ _) (.cons (jf6 (d:=dkD ⟨e,s,c,y,r⟩) rfl rfl) (.cons (LeP.refl rfl).le .nil)) km rfl rfl rfl rfl rfl rfl ?_)|(refine clx (d:=iD x) (xs:=[.ptr 2 0]) (ys:=[.ip (dkD ⟨e,s,c,y,r⟩)]) _ (envG _ _ _ _ _ _) (.cons (jf6 (d:=dkD ⟨e,s,c,y,r⟩) rfl rfl) .nil) kd rfl rfl rfl rfl rfl rfl ?_)|(refine sx ?_)));refine ja1 ?_;refine kl1 ?_
         exact retF
        ·intro hj
         rw [if_neg (fun h=>h (show m=joT from jg2 hj))]
         refine ja6 ?_
         refine regX [4] ?_;intro w0 A S0 f0;(repeat ((with_reducible show DR _ _ _ (_::_) _);first|(refine cx _ (envG _ _ _ _ _ _) rfl rfl rfl rfl rfl ?_ (hc:=by first|exact k4|exact k5))|(refine clx (d:=strD m) (xs:=[.ptr 2 0,strD e.s]) (ys:=[.ip (dkD ⟨e,s,c,y,r⟩),strD e.s]) _ (envG _ _ _ _ _ _) (.cons (jf6 (d:=dkD ⟨e,s,c,y,r⟩) rfl rfl) (.cons (LeP.refl rfl).le .nil)) km rfl rfl rfl rfl rfl rfl ?_)|(refine clx (d:=iD x) (xs:=[.ptr 2 0]) (ys:=[.ip (dkD ⟨e,s,c,y,r⟩)]) _ (envG _ _ _ _ _ _) (.cons (jf6 (d:=dkD ⟨e,s,c,y,r⟩) rfl rfl) .nil) kd rfl rfl rfl rfl rfl rfl ?_)|(refine sx ?_)));refine ja1 ?_;refine kl1 ?_
         exact retF
      ·have dv:decide (v=0)=false:=decide_eq_false hv
       rw [if_pos hv]
       have hX:=And.intro jb7 (And.intro jb3 (And.intro jc9 (And.intro ja3 (And.intro d1 (And.intro dw (dv))))))
       refine ja6 ?_
       have hK:=And.intro (k4) (And.intro (k5) trivial);refine rgx [0,3,7] ?_
       refine rgx [0,3,6,7] ?_
       refine rgx [0,3,6,7,50] ?_
       refine iffs ?_
       refine rgx [3,6,7] ?_
       refine rgx [3,6,7,61] ?_
       refine iftx ?_
       refine rgx [4] ?_
       exact retF
     ·have dw:decide (w=0)=false:=decide_eq_false hw
      rw [if_pos hw]
      have hX:=And.intro jb7 (And.intro jb3 (And.intro jc9 (And.intro ja3 (And.intro d1 (dw)))))
      refine ja6 ?_
      have hK:=And.intro (k4) (And.intro (k5) trivial);refine rgx [0,3,7] ?_
      refine rgx [0,3,6,7] ?_
      refine rgx [0,3,6,7,50] ?_
      refine iftx ?_
      refine rgx [4] ?_
      exact retF
  ·rw [qb8 h0] at k2
   rw [if_pos (fun h=>h0 h.2)]
   have hX:=and_true;refine pcx Tryz.func19 rfl Tryz.ntmps19 Tryz.results19 rfl ?_;intro w0 A
   have hX:=And.intro jb7 (And.intro jb3 (and_true))
   have hK:=And.intro (k1) (And.intro (k2) trivial);refine rgx [0,3] ?_
   refine rggx [0,3,15] ?_
   refine iftx ?_
   refine rgx [4] ?_
   exact retF
 ·rw [ji7 hc] at k1
  rw [if_pos (fun h=>hc h.1)]
  have hX:=and_true;refine pcx Tryz.func19 rfl Tryz.ntmps19 Tryz.results19 rfl ?_;intro w0 A
  have hX:=And.intro jb7 (And.intro jb3 (and_true))
  have hK:=And.intro (k1) trivial;refine rgx [0,3] ?_
  refine rggx [0,3,15] ?_
  refine iftx ?_
  refine rgx [4] ?_
  exact retF
end Go.Proofs.YthphphlbedlicaaGreatDoor
