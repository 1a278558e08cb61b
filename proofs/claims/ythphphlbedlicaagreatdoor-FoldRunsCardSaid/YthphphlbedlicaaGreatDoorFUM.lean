/- Moves: right or not; one's own, others'; whether they may be (package member). (Written by gen_ud.py.) Moves: one's own (package member). (Written by gen_ud.py.) -/
import Derived.Test.YthphphlbedlicaaGreatDoorFPD
import Derived.Test.YthphphlbedlicaaGreatDoorFUA
set_option linter.unusedSimpArgs false
set_option linter.unusedVariables false
set_option maxRecDepth 10000
namespace Go.Proofs.YthphphlbedlicaaGreatDoor
open Go.RowKit
set_option maxHeartbeats 8000000 in
theorem vg4 (m:Mv):PC (ja0 Tryz.prog) 115 [mvD m] (iD (mvC m)):=by
 have k1:=kw6 m.r
 have k2:=kp2 m.s
 have k3:=kp2 m.w
 have k4:=kp2 m.t
 unfold mvC mvOk
 generalize rulM m.r=b1 at *
 generalize isM m.s=b2 at *
 generalize isM m.w=b3 at *
 generalize isM m.t=b4 at *
 cases b1
 ·have hX:=and_true;refine pcx Tryz.func115 rfl Tryz.ntmps115 Tryz.results115 rfl ?_;intro w0 A
  have hX:=And.intro jb0 (and_true)
  have hK:=And.intro (k1) (And.intro (k2) (And.intro (k3) (And.intro (k4) trivial)));refine rgx [1] ?_
  refine rggx [24] ?_
  refine iftx ?_
  refine rgx [2] ?_
  exact retF
 cases b2
 ·have hX:=and_true;refine pcx Tryz.func115 rfl Tryz.ntmps115 Tryz.results115 rfl ?_;intro w0 A
  have hX:=And.intro jb0 (and_true)
  have hK:=And.intro (k1) (And.intro (k2) (And.intro (k3) (And.intro (k4) trivial)));refine rgx [1] ?_
  refine rggx [24] ?_
  refine iftx ?_
  refine rgx [2] ?_
  exact retF
 cases b3
 ·have hX:=and_true;refine pcx Tryz.func115 rfl Tryz.ntmps115 Tryz.results115 rfl ?_;intro w0 A
  have hX:=And.intro jb0 (and_true)
  have hK:=And.intro (k1) (And.intro (k2) (And.intro (k3) (And.intro (k4) trivial)));refine rgx [1] ?_
  refine rggx [24] ?_
  refine iftx ?_
  refine rgx [2] ?_
  exact retF
 cases b4
 ·have hX:=and_true;refine pcx Tryz.func115 rfl Tryz.ntmps115 Tryz.results115 rfl ?_;intro w0 A
  have hX:=And.intro jb0 (and_true)
  have hK:=And.intro (k1) (And.intro (k2) (And.intro (k3) (And.intro (k4) trivial)));refine rgx [1] ?_
  refine rggx [24] ?_
  refine iftx ?_
  refine rgx [2] ?_
  exact retF
 ·have hX:=and_true;refine pcx Tryz.func115 rfl Tryz.ntmps115 Tryz.results115 rfl ?_;intro w0 A
  have hX:=And.intro jb0 (and_true)
  have hK:=And.intro (k1) (And.intro (k2) (And.intro (k3) (And.intro (k4) trivial)));refine rgx [1] ?_
  refine rggx [24] ?_
  refine iffs ?_
  refine rgx [2] ?_
  exact retF
set_option maxHeartbeats 8000000 in
theorem jn0 (m:Mv):PC (ja0 Tryz.prog) 124 [mvD m] (iD (mvC m)):=by
 have k1:=kl7 m.r
 have k2:=ki1 m.s
 have k3:=ki1 m.w
 have k4:=ki1 m.t
 unfold mvC mvOk
 generalize rulM m.r=b1 at *
 generalize isM m.s=b2 at *
 generalize isM m.w=b3 at *
 generalize isM m.t=b4 at *
 cases b1
 ·have hX:=and_true;refine pcx Tryz.func124 rfl Tryz.ntmps124 Tryz.results124 rfl ?_;intro w0 A
  have hX:=And.intro jb0 (and_true)
  have hK:=And.intro (k1) (And.intro (k2) (And.intro (k3) (And.intro (k4) trivial)));refine rgx [1] ?_
  refine rggx [24] ?_
  refine iftx ?_
  refine rgx [2] ?_
  exact retF
 cases b2
 ·have hX:=and_true;refine pcx Tryz.func124 rfl Tryz.ntmps124 Tryz.results124 rfl ?_;intro w0 A
  have hX:=And.intro jb0 (and_true)
  have hK:=And.intro (k1) (And.intro (k2) (And.intro (k3) (And.intro (k4) trivial)));refine rgx [1] ?_
  refine rggx [24] ?_
  refine iftx ?_
  refine rgx [2] ?_
  exact retF
 cases b3
 ·have hX:=and_true;refine pcx Tryz.func124 rfl Tryz.ntmps124 Tryz.results124 rfl ?_;intro w0 A
  have hX:=And.intro jb0 (and_true)
  have hK:=And.intro (k1) (And.intro (k2) (And.intro (k3) (And.intro (k4) trivial)));refine rgx [1] ?_
  refine rggx [24] ?_
  refine iftx ?_
  refine rgx [2] ?_
  exact retF
 cases b4
 ·have hX:=and_true;refine pcx Tryz.func124 rfl Tryz.ntmps124 Tryz.results124 rfl ?_;intro w0 A
  have hX:=And.intro jb0 (and_true)
  have hK:=And.intro (k1) (And.intro (k2) (And.intro (k3) (And.intro (k4) trivial)));refine rgx [1] ?_
  refine rggx [24] ?_
  refine iftx ?_
  refine rgx [2] ?_
  exact retF
 ·have hX:=and_true;refine pcx Tryz.func124 rfl Tryz.ntmps124 Tryz.results124 rfl ?_;intro w0 A
  have hX:=And.intro jb0 (and_true)
  have hK:=And.intro (k1) (And.intro (k2) (And.intro (k3) (And.intro (k4) trivial)));refine rgx [1] ?_
  refine rggx [24] ?_
  refine iffs ?_
  refine rgx [2] ?_
  exact retF
set_option maxHeartbeats 16000000 in
theorem vo8 (m:Mv):PC (ja0 Tryz.prog) 116 [mvD m] (bD (ownB m)):=by
 have k2:=qp7 joT inT m.w
 have k3:=kv0 joT inT knT m.w
 by_cases htjo:m.t=joT
 ·have gtjo:=dsT (b:=[106,111,105,110]) htjo
  by_cases hwjo:m.w=joT
  ·have gwjo:=dsT (b:=[106,111,105,110]) hwjo
   have hv:ownB m=true:=by simp [ownB,oneB,htjo,hwjo,wne]
   rw [hv]
   have e2:oneB m.w [joT,inT]=true:=by simp [oneB,inM,htjo,hwjo,wne]
   have e3:oneB m.w [joT,inT,knT]=true:=by simp [oneB,inM,htjo,hwjo,wne]
   have hX:=and_true;refine pcx Tryz.func116 rfl Tryz.ntmps116 Tryz.results116 rfl ?_;intro w0 A
   have hX:=And.intro jb0 (And.intro gtjo (And.intro gwjo (And.intro e2 (e3))))
   have hK:=And.intro (k2) (And.intro (k3) trivial);refine rgx [1] ?_
   refine rgx [1,4] ?_
   refine rgx [1,4,5] ?_
   refine iftx ?_
   refine rggx [2] ?_
   exact retF
  ·have gwjo:=dsF (b:=[106,111,105,110]) hwjo
   by_cases hwin:m.w=inT
   ·have gwin:=dsT (b:=[105,110,118,105,116,101]) hwin
    have hv:ownB m=true:=by simp [ownB,oneB,htjo,hwjo,hwin,wne]
    rw [hv]
    have e2:oneB m.w [joT,inT]=true:=by simp [oneB,inM,htjo,hwjo,hwin,wne]
    have e3:oneB m.w [joT,inT,knT]=true:=by simp [oneB,inM,htjo,hwjo,hwin,wne]
    have hX:=and_true;refine pcx Tryz.func116 rfl Tryz.ntmps116 Tryz.results116 rfl ?_;intro w0 A
    have hX:=And.intro jb0 (And.intro gtjo (And.intro gwjo (And.intro gwin (And.intro e2 (e3)))))
    have hK:=And.intro (k2) (And.intro (k3) trivial);refine rgx [1] ?_
    refine rgx [1,4] ?_
    refine rgx [1,4,5] ?_
    refine iftx ?_
    refine rggx [2] ?_
    exact retF
   ·have gwin:=dsF (b:=[105,110,118,105,116,101]) hwin
    by_cases hrpu:m.r=puT
    ·have grpu:=dsT (b:=[112,117,98,108,105,99]) hrpu
     by_cases hwba:m.w=baT
     ·have gwba:=dsT (b:=[98,97,110]) hwba
      have hv:ownB m=false:=by simp [ownB,oneB,htjo,hwjo,hwin,hrpu,hwba,wne]
      rw [hv]
      have e2:oneB m.w [joT,inT]=false:=by simp [oneB,inM,htjo,hwjo,hwin,hrpu,hwba,wne]
      have e3:oneB m.w [joT,inT,knT]=false:=by simp [oneB,inM,htjo,hwjo,hwin,hrpu,hwba,wne]
      have hX:=and_true;refine pcx Tryz.func116 rfl Tryz.ntmps116 Tryz.results116 rfl ?_;intro w0 A
      have hX:=And.intro jb0 (And.intro gtjo (And.intro gwjo (And.intro gwin (And.intro grpu (And.intro gwba (And.intro e2 (e3)))))))
      have hK:=And.intro (k2) (And.intro (k3) trivial);refine rgx [1] ?_
      refine rgx [1,4] ?_
      refine rgx [1,4,5] ?_
      refine iftx ?_
      refine rggx [2] ?_
      exact retF
     ·have gwba:=dsF (b:=[98,97,110]) hwba
      have hv:ownB m=true:=by simp [ownB,oneB,htjo,hwjo,hwin,hrpu,hwba,wne]
      rw [hv]
      have e2:oneB m.w [joT,inT]=false:=by simp [oneB,inM,htjo,hwjo,hwin,hrpu,hwba,wne]
      have hX:=and_true;refine pcx Tryz.func116 rfl Tryz.ntmps116 Tryz.results116 rfl ?_;intro w0 A
      have hX:=And.intro jb0 (And.intro gtjo (And.intro gwjo (And.intro gwin (And.intro grpu (And.intro gwba (e2))))))
      have hK:=And.intro (k2) (And.intro (k3) trivial);refine rgx [1] ?_
      refine rgx [1,4] ?_
      refine rgx [1,4,5] ?_
      refine iftx ?_
      refine rggx [2] ?_
      exact retF
    ·have grpu:=dsF (b:=[112,117,98,108,105,99]) hrpu
     have hv:ownB m=false:=by simp [ownB,oneB,htjo,hwjo,hwin,hrpu,wne]
     rw [hv]
     have e2:oneB m.w [joT,inT]=false:=by simp [oneB,inM,htjo,hwjo,hwin,hrpu,wne]
     have hX:=and_true;refine pcx Tryz.func116 rfl Tryz.ntmps116 Tryz.results116 rfl ?_;intro w0 A
     have hX:=And.intro jb0 (And.intro gtjo (And.intro gwjo (And.intro gwin (And.intro grpu (e2)))))
     have hK:=And.intro (k2) (And.intro (k3) trivial);refine rgx [1] ?_
     refine rgx [1,4] ?_
     refine rgx [1,4,5] ?_
     refine iftx ?_
     refine rggx [2] ?_
     exact retF
 ·have gtjo:=dsF (b:=[106,111,105,110]) htjo
  by_cases htle:m.t=leT
  ·have gtle:=dsT (b:=[108,101,97,118,101]) htle
   by_cases hwjo:m.w=joT
   ·have gwjo:=dsT (b:=[106,111,105,110]) hwjo
    have hv:ownB m=true:=by simp [ownB,oneB,htjo,htle,hwjo,wne]
    rw [hv]
    have e2:oneB m.w [joT,inT]=true:=by simp [oneB,inM,htjo,htle,hwjo,wne]
    have e3:oneB m.w [joT,inT,knT]=true:=by simp [oneB,inM,htjo,htle,hwjo,wne]
    have hX:=and_true;refine pcx Tryz.func116 rfl Tryz.ntmps116 Tryz.results116 rfl ?_;intro w0 A
    have hX:=And.intro jb0 (And.intro gtjo (And.intro gtle (And.intro gwjo (And.intro e2 (e3)))))
    have hK:=And.intro (k2) (And.intro (k3) trivial);refine rgx [1] ?_
    refine rgx [1,4] ?_
    refine rgx [1,4,5] ?_
    refine iffx ?_
    refine rgx [1,4,21] ?_
    refine iftx ?_
    refine rgx [2] ?_
    exact retF
   ·have gwjo:=dsF (b:=[106,111,105,110]) hwjo
    by_cases hwin:m.w=inT
    ·have gwin:=dsT (b:=[105,110,118,105,116,101]) hwin
     have hv:ownB m=true:=by simp [ownB,oneB,htjo,htle,hwjo,hwin,wne]
     rw [hv]
     have e2:oneB m.w [joT,inT]=true:=by simp [oneB,inM,htjo,htle,hwjo,hwin,wne]
     have e3:oneB m.w [joT,inT,knT]=true:=by simp [oneB,inM,htjo,htle,hwjo,hwin,wne]
     have hX:=and_true;refine pcx Tryz.func116 rfl Tryz.ntmps116 Tryz.results116 rfl ?_;intro w0 A
     have hX:=And.intro jb0 (And.intro gtjo (And.intro gtle (And.intro gwjo (And.intro gwin (And.intro e2 (e3))))))
     have hK:=And.intro (k2) (And.intro (k3) trivial);refine rgx [1] ?_
     refine rgx [1,4] ?_
     refine rgx [1,4,5] ?_
     refine iffx ?_
     refine rgx [1,4,21] ?_
     refine iftx ?_
     refine rgx [2] ?_
     exact retF
    ·have gwin:=dsF (b:=[105,110,118,105,116,101]) hwin
     by_cases hwkn:m.w=knT
     ·have gwkn:=dsT (b:=[107,110,111,99,107]) hwkn
      have hv:ownB m=true:=by simp [ownB,oneB,htjo,htle,hwjo,hwin,hwkn,wne]
      rw [hv]
      have e2:oneB m.w [joT,inT]=false:=by simp [oneB,inM,htjo,htle,hwjo,hwin,hwkn,wne]
      have e3:oneB m.w [joT,inT,knT]=true:=by simp [oneB,inM,htjo,htle,hwjo,hwin,hwkn,wne]
      have hX:=and_true;refine pcx Tryz.func116 rfl Tryz.ntmps116 Tryz.results116 rfl ?_;intro w0 A
      have hX:=And.intro jb0 (And.intro gtjo (And.intro gtle (And.intro gwjo (And.intro gwin (And.intro gwkn (And.intro e2 (e3)))))))
      have hK:=And.intro (k2) (And.intro (k3) trivial);refine rgx [1] ?_
      refine rgx [1,4] ?_
      refine rgx [1,4,5] ?_
      refine iffx ?_
      refine rgx [1,4,21] ?_
      refine iftx ?_
      refine rgx [2] ?_
      exact retF
     ·have gwkn:=dsF (b:=[107,110,111,99,107]) hwkn
      have hv:ownB m=false:=by simp [ownB,oneB,htjo,htle,hwjo,hwin,hwkn,wne]
      rw [hv]
      have e2:oneB m.w [joT,inT]=false:=by simp [oneB,inM,htjo,htle,hwjo,hwin,hwkn,wne]
      have e3:oneB m.w [joT,inT,knT]=false:=by simp [oneB,inM,htjo,htle,hwjo,hwin,hwkn,wne]
      have hX:=and_true;refine pcx Tryz.func116 rfl Tryz.ntmps116 Tryz.results116 rfl ?_;intro w0 A
      have hX:=And.intro jb0 (And.intro gtjo (And.intro gtle (And.intro gwjo (And.intro gwin (And.intro gwkn (And.intro e2 (e3)))))))
      have hK:=And.intro (k2) (And.intro (k3) trivial);refine rgx [1] ?_
      refine rgx [1,4] ?_
      refine rgx [1,4,5] ?_
      refine iffx ?_
      refine rgx [1,4,21] ?_
      refine iftx ?_
      refine rgx [2] ?_
      exact retF
  ·have gtle:=dsF (b:=[108,101,97,118,101]) htle
   by_cases htkn:m.t=knT
   ·have gtkn:=dsT (b:=[107,110,111,99,107]) htkn
    by_cases hrkn:m.r=knT
    ·have grkn:=dsT (b:=[107,110,111,99,107]) hrkn
     by_cases hwle:m.w=leT
     ·have gwle:=dsT (b:=[108,101,97,118,101]) hwle
      have hv:ownB m=true:=by simp [ownB,oneB,htjo,htle,htkn,hrkn,hwle,wne]
      rw [hv]
      have e2:oneB m.w [joT,inT]=false:=by simp [oneB,inM,htjo,htle,htkn,hrkn,hwle,wne]
      have e3:oneB m.w [joT,inT,knT]=false:=by simp [oneB,inM,htjo,htle,htkn,hrkn,hwle,wne]
      have hX:=and_true;refine pcx Tryz.func116 rfl Tryz.ntmps116 Tryz.results116 rfl ?_;intro w0 A
      have hX:=And.intro jb0 (And.intro gtjo (And.intro gtle (And.intro gtkn (And.intro grkn (And.intro gwle (And.intro e2 (e3)))))))
      have hK:=And.intro (k2) (And.intro (k3) trivial);refine rgx [1] ?_
      refine rgx [1,4] ?_
      refine rgx [1,4,5] ?_
      refine iffx ?_
      refine rgx [1,4,21] ?_
      refine iffx ?_
      refine rgx [1,27] ?_
      refine iftx ?_
      refine rggx [2] ?_
      exact retF
     ·have gwle:=dsF (b:=[108,101,97,118,101]) hwle
      have hv:ownB m=false:=by simp [ownB,oneB,htjo,htle,htkn,hrkn,hwle,wne]
      rw [hv]
      have hX:=and_true;refine pcx Tryz.func116 rfl Tryz.ntmps116 Tryz.results116 rfl ?_;intro w0 A
      have hX:=And.intro jb0 (And.intro gtjo (And.intro gtle (And.intro gtkn (And.intro grkn (gwle)))))
      have hK:=And.intro (k2) (And.intro (k3) trivial);refine rgx [1] ?_
      refine rgx [1,4] ?_
      refine rgx [1,4,5] ?_
      refine iffx ?_
      refine rgx [1,4,21] ?_
      refine iffx ?_
      refine rgx [1,27] ?_
      refine iftx ?_
      refine rggx [2] ?_
      exact retF
    ·have grkn:=dsF (b:=[107,110,111,99,107]) hrkn
     have hv:ownB m=false:=by simp [ownB,oneB,htjo,htle,htkn,hrkn,wne]
     rw [hv]
     have hX:=and_true;refine pcx Tryz.func116 rfl Tryz.ntmps116 Tryz.results116 rfl ?_;intro w0 A
     have hX:=And.intro jb0 (And.intro gtjo (And.intro gtle (And.intro gtkn (grkn))))
     have hK:=And.intro (k2) (And.intro (k3) trivial);refine rgx [1] ?_
     refine rgx [1,4] ?_
     refine rgx [1,4,5] ?_
     refine iffx ?_
     refine rgx [1,4,21] ?_
     refine iffx ?_
     refine rgx [1,27] ?_
     refine iftx ?_
     refine rggx [2] ?_
     exact retF
   ·have gtkn:=dsF (b:=[107,110,111,99,107]) htkn
    have hv:ownB m=false:=by simp [ownB,oneB,htjo,htle,htkn,wne]
    rw [hv]
    have hX:=and_true;refine pcx Tryz.func116 rfl Tryz.ntmps116 Tryz.results116 rfl ?_;intro w0 A
    have hX:=And.intro jb0 (And.intro gtjo (And.intro gtle (gtkn)))
    have hK:=And.intro (k2) (And.intro (k3) trivial);refine rgx [1] ?_
    refine rgx [1,4] ?_
    refine rgx [1,4,5] ?_
    refine iffx ?_
    refine rgx [1,4,21] ?_
    refine iffx ?_
    refine rgx [1,27] ?_
    refine iffs ?_
    refine rgx [2] ?_
    exact retF
end Go.Proofs.YthphphlbedlicaaGreatDoor
