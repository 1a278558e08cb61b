/- Moves: others' (package member). (Written by gen_ud.py.) -/
import Derived.Test.YthphphlbedlicaaGreatDoorFPD
import Derived.Test.YthphphlbedlicaaGreatDoorFUA
set_option linter.unusedSimpArgs false
set_option linter.unusedVariables false
set_option maxRecDepth 10000
namespace Go.Proofs.YthphphlbedlicaaGreatDoor
open Go.RowKit
set_option maxHeartbeats 16000000 in
theorem vo7 (m:Mv):PC (ja0 Tryz.prog) 117 [mvD m] (bD (othB m)):=by
 have k2:=qp7 joT baT m.w
 have k3:=kv0 joT inT knT m.w
 by_cases htin:m.t=inT
 ·have gtin:=dsT (b:=[105,110,118,105,116,101]) htin
  cases hi:m.i
  ·have hv:othB m=false:=by simp [othB,oneB,htin,hi,wne]
   rw [hv]
   have hX:=and_true;refine pcx Tryz.func117 rfl Tryz.ntmps117 Tryz.results117 rfl ?_;intro w0 A
   have hX:=And.intro jb0 (And.intro gtin (hi))
   have hK:=And.intro (k2) (And.intro (k3) trivial);refine rgx [1] ?_
   refine rgx [1,4] ?_
   refine rgx [1,4,5] ?_
   refine iftx ?_
   refine rggx [2] ?_
   exact retF
  ·by_cases hwjo:m.w=joT
   ·have gwjo:=dsT (b:=[106,111,105,110]) hwjo
    have hv:othB m=false:=by simp [othB,oneB,htin,hi,hwjo,wne]
    rw [hv]
    have e2:oneB m.w [joT,baT]=true:=by simp [oneB,inM,htin,hi,hwjo,wne]
    have e3:oneB m.w [joT,inT,knT]=true:=by simp [oneB,inM,htin,hi,hwjo,wne]
    have hX:=and_true;refine pcx Tryz.func117 rfl Tryz.ntmps117 Tryz.results117 rfl ?_;intro w0 A
    have hX:=And.intro jb0 (And.intro gtin (And.intro hi (And.intro gwjo (And.intro e2 (e3)))))
    have hK:=And.intro (k2) (And.intro (k3) trivial);refine rgx [1] ?_
    refine rgx [1,4] ?_
    refine rgx [1,4,5] ?_
    refine iftx ?_
    refine rggx [2] ?_
    exact retF
   ·have gwjo:=dsF (b:=[106,111,105,110]) hwjo
    by_cases hwba:m.w=baT
    ·have gwba:=dsT (b:=[98,97,110]) hwba
     have hv:othB m=false:=by simp [othB,oneB,htin,hi,hwjo,hwba,wne]
     rw [hv]
     have e2:oneB m.w [joT,baT]=true:=by simp [oneB,inM,htin,hi,hwjo,hwba,wne]
     have e3:oneB m.w [joT,inT,knT]=false:=by simp [oneB,inM,htin,hi,hwjo,hwba,wne]
     have hX:=and_true;refine pcx Tryz.func117 rfl Tryz.ntmps117 Tryz.results117 rfl ?_;intro w0 A
     have hX:=And.intro jb0 (And.intro gtin (And.intro hi (And.intro gwjo (And.intro gwba (And.intro e2 (e3))))))
     have hK:=And.intro (k2) (And.intro (k3) trivial);refine rgx [1] ?_
     refine rgx [1,4] ?_
     refine rgx [1,4,5] ?_
     refine iftx ?_
     refine rggx [2] ?_
     exact retF
    ·have gwba:=dsF (b:=[98,97,110]) hwba
     have hv:othB m=true:=by simp [othB,oneB,htin,hi,hwjo,hwba,wne]
     rw [hv]
     have e2:oneB m.w [joT,baT]=false:=by simp [oneB,inM,htin,hi,hwjo,hwba,wne]
     have hX:=and_true;refine pcx Tryz.func117 rfl Tryz.ntmps117 Tryz.results117 rfl ?_;intro w0 A
     have hX:=And.intro jb0 (And.intro gtin (And.intro hi (And.intro gwjo (And.intro gwba (e2)))))
     have hK:=And.intro (k2) (And.intro (k3) trivial);refine rgx [1] ?_
     refine rgx [1,4] ?_
     refine rgx [1,4,5] ?_
     refine iftx ?_
     refine rggx [2] ?_
     exact retF
 ·have gtin:=dsF (b:=[105,110,118,105,116,101]) htin
  by_cases htba:m.t=baT
  ·have gtba:=dsT (b:=[98,97,110]) htba
   cases hb:m.b
   ·have hv:othB m=false:=by simp [othB,oneB,htin,htba,hb,wne]
    rw [hv]
    have hX:=and_true;refine pcx Tryz.func117 rfl Tryz.ntmps117 Tryz.results117 rfl ?_;intro w0 A
    have hX:=And.intro jb0 (And.intro gtin (And.intro gtba (hb)))
    have hK:=And.intro (k2) (And.intro (k3) trivial);refine rgx [1] ?_
    refine rgx [1,4] ?_
    refine rgx [1,4,5] ?_
    refine iffx ?_
    refine rgx [1,4,16] ?_
    refine iftx ?_
    refine rggx [2] ?_
    exact retF
   ·cases ha:m.a
    ·have hv:othB m=false:=by simp [othB,oneB,htin,htba,hb,ha,wne]
     rw [hv]
     have hX:=and_true;refine pcx Tryz.func117 rfl Tryz.ntmps117 Tryz.results117 rfl ?_;intro w0 A
     have hX:=And.intro jb0 (And.intro gtin (And.intro gtba (And.intro hb (ha))))
     have hK:=And.intro (k2) (And.intro (k3) trivial);refine rgx [1] ?_
     refine rgx [1,4] ?_
     refine rgx [1,4,5] ?_
     refine iffx ?_
     refine rgx [1,4,16] ?_
     refine iftx ?_
     refine rggx [2] ?_
     exact retF
    ·have hv:othB m=true:=by simp [othB,oneB,htin,htba,hb,ha,wne]
     rw [hv]
     have hX:=and_true;refine pcx Tryz.func117 rfl Tryz.ntmps117 Tryz.results117 rfl ?_;intro w0 A
     have hX:=And.intro jb0 (And.intro gtin (And.intro gtba (And.intro hb (ha))))
     have hK:=And.intro (k2) (And.intro (k3) trivial);refine rgx [1] ?_
     refine rgx [1,4] ?_
     refine rgx [1,4,5] ?_
     refine iffx ?_
     refine rgx [1,4,16] ?_
     refine iftx ?_
     refine rggx [2] ?_
     exact retF
  ·have gtba:=dsF (b:=[98,97,110]) htba
   by_cases htle:m.t=leT
   ·have gtle:=dsT (b:=[108,101,97,118,101]) htle
    cases ha:m.a
    ·have hv:othB m=false:=by simp [othB,oneB,htin,htba,htle,ha,wne]
     rw [hv]
     have hX:=and_true;refine pcx Tryz.func117 rfl Tryz.ntmps117 Tryz.results117 rfl ?_;intro w0 A
     have hX:=And.intro jb0 (And.intro gtin (And.intro gtba (And.intro gtle (ha))))
     have hK:=And.intro (k2) (And.intro (k3) trivial);refine rgx [1] ?_
     refine rgx [1,4] ?_
     refine rgx [1,4,5] ?_
     refine iffx ?_
     refine rgx [1,4,16] ?_
     refine iffx ?_
     refine rgx [1,24] ?_
     refine iftx ?_
     refine rggx [2] ?_
     exact retF
    ·by_cases hwba:m.w=baT
     ·have gwba:=dsT (b:=[98,97,110]) hwba
      cases hb:m.b
      ·have hv:othB m=false:=by simp [othB,oneB,htin,htba,htle,ha,hwba,hb,wne]
       rw [hv]
       have e2:oneB m.w [joT,baT]=true:=by simp [oneB,inM,htin,htba,htle,ha,hwba,hb,wne]
       have e3:oneB m.w [joT,inT,knT]=false:=by simp [oneB,inM,htin,htba,htle,ha,hwba,hb,wne]
       have hX:=and_true;refine pcx Tryz.func117 rfl Tryz.ntmps117 Tryz.results117 rfl ?_;intro w0 A
       have hX:=And.intro jb0 (And.intro gtin (And.intro gtba (And.intro gtle (And.intro ha (And.intro gwba (And.intro hb (And.intro e2 (e3))))))))
       have hK:=And.intro (k2) (And.intro (k3) trivial);refine rgx [1] ?_
       refine rgx [1,4] ?_
       refine rgx [1,4,5] ?_
       refine iffx ?_
       refine rgx [1,4,16] ?_
       refine iffx ?_
       refine rgx [1,24] ?_
       refine iftx ?_
       refine rggx [2] ?_
       exact retF
      ·have hv:othB m=true:=by simp [othB,oneB,htin,htba,htle,ha,hwba,hb,wne]
       rw [hv]
       have e2:oneB m.w [joT,baT]=true:=by simp [oneB,inM,htin,htba,htle,ha,hwba,hb,wne]
       have e3:oneB m.w [joT,inT,knT]=false:=by simp [oneB,inM,htin,htba,htle,ha,hwba,hb,wne]
       have hX:=and_true;refine pcx Tryz.func117 rfl Tryz.ntmps117 Tryz.results117 rfl ?_;intro w0 A
       have hX:=And.intro jb0 (And.intro gtin (And.intro gtba (And.intro gtle (And.intro ha (And.intro gwba (And.intro hb (And.intro e2 (e3))))))))
       have hK:=And.intro (k2) (And.intro (k3) trivial);refine rgx [1] ?_
       refine rgx [1,4] ?_
       refine rgx [1,4,5] ?_
       refine iffx ?_
       refine rgx [1,4,16] ?_
       refine iffx ?_
       refine rgx [1,24] ?_
       refine iftx ?_
       refine rggx [2] ?_
       exact retF
     ·have gwba:=dsF (b:=[98,97,110]) hwba
      by_cases hwjo:m.w=joT
      ·have gwjo:=dsT (b:=[106,111,105,110]) hwjo
       cases hk:m.k
       ·have hv:othB m=false:=by simp [othB,oneB,htin,htba,htle,ha,hwba,hwjo,hk,wne]
        rw [hv]
        have e2:oneB m.w [joT,baT]=true:=by simp [oneB,inM,htin,htba,htle,ha,hwba,hwjo,hk,wne]
        have e3:oneB m.w [joT,inT,knT]=true:=by simp [oneB,inM,htin,htba,htle,ha,hwba,hwjo,hk,wne]
        have hX:=and_true;refine pcx Tryz.func117 rfl Tryz.ntmps117 Tryz.results117 rfl ?_;intro w0 A
        have hX:=And.intro jb0 (And.intro gtin (And.intro gtba (And.intro gtle (And.intro ha (And.intro gwba (And.intro gwjo (And.intro hk (And.intro e2 (e3)))))))))
        have hK:=And.intro (k2) (And.intro (k3) trivial);refine rgx [1] ?_
        refine rgx [1,4] ?_
        refine rgx [1,4,5] ?_
        refine iffx ?_
        refine rgx [1,4,16] ?_
        refine iffx ?_
        refine rgx [1,24] ?_
        refine iftx ?_
        refine rggx [2] ?_
        exact retF
       ·have hv:othB m=true:=by simp [othB,oneB,htin,htba,htle,ha,hwba,hwjo,hk,wne]
        rw [hv]
        have e2:oneB m.w [joT,baT]=true:=by simp [oneB,inM,htin,htba,htle,ha,hwba,hwjo,hk,wne]
        have e3:oneB m.w [joT,inT,knT]=true:=by simp [oneB,inM,htin,htba,htle,ha,hwba,hwjo,hk,wne]
        have hX:=and_true;refine pcx Tryz.func117 rfl Tryz.ntmps117 Tryz.results117 rfl ?_;intro w0 A
        have hX:=And.intro jb0 (And.intro gtin (And.intro gtba (And.intro gtle (And.intro ha (And.intro gwba (And.intro gwjo (And.intro hk (And.intro e2 (e3)))))))))
        have hK:=And.intro (k2) (And.intro (k3) trivial);refine rgx [1] ?_
        refine rgx [1,4] ?_
        refine rgx [1,4,5] ?_
        refine iffx ?_
        refine rgx [1,4,16] ?_
        refine iffx ?_
        refine rgx [1,24] ?_
        refine iftx ?_
        refine rggx [2] ?_
        exact retF
      ·have gwjo:=dsF (b:=[106,111,105,110]) hwjo
       by_cases hwin:m.w=inT
       ·have gwin:=dsT (b:=[105,110,118,105,116,101]) hwin
        cases hk:m.k
        ·have hv:othB m=false:=by simp [othB,oneB,htin,htba,htle,ha,hwba,hwjo,hwin,hk,wne]
         rw [hv]
         have e2:oneB m.w [joT,baT]=false:=by simp [oneB,inM,htin,htba,htle,ha,hwba,hwjo,hwin,hk,wne]
         have e3:oneB m.w [joT,inT,knT]=true:=by simp [oneB,inM,htin,htba,htle,ha,hwba,hwjo,hwin,hk,wne]
         have hX:=and_true;refine pcx Tryz.func117 rfl Tryz.ntmps117 Tryz.results117 rfl ?_;intro w0 A
         have hX:=And.intro jb0 (And.intro gtin (And.intro gtba (And.intro gtle (And.intro ha (And.intro gwba (And.intro gwjo (And.intro gwin (And.intro hk (And.intro e2 (e3))))))))))
         have hK:=And.intro (k2) (And.intro (k3) trivial);refine rgx [1] ?_
         refine rgx [1,4] ?_
         refine rgx [1,4,5] ?_
         refine iffx ?_
         refine rgx [1,4,16] ?_
         refine iffx ?_
         refine rgx [1,24] ?_
         refine iftx ?_
         refine rggx [2] ?_
         exact retF
        ·have hv:othB m=true:=by simp [othB,oneB,htin,htba,htle,ha,hwba,hwjo,hwin,hk,wne]
         rw [hv]
         have e2:oneB m.w [joT,baT]=false:=by simp [oneB,inM,htin,htba,htle,ha,hwba,hwjo,hwin,hk,wne]
         have e3:oneB m.w [joT,inT,knT]=true:=by simp [oneB,inM,htin,htba,htle,ha,hwba,hwjo,hwin,hk,wne]
         have hX:=and_true;refine pcx Tryz.func117 rfl Tryz.ntmps117 Tryz.results117 rfl ?_;intro w0 A
         have hX:=And.intro jb0 (And.intro gtin (And.intro gtba (And.intro gtle (And.intro ha (And.intro gwba (And.intro gwjo (And.intro gwin (And.intro hk (And.intro e2 (e3))))))))))
         have hK:=And.intro (k2) (And.intro (k3) trivial);refine rgx [1] ?_
         refine rgx [1,4] ?_
         refine rgx [1,4,5] ?_
         refine iffx ?_
         refine rgx [1,4,16] ?_
         refine iffx ?_
         refine rgx [1,24] ?_
         refine iftx ?_
         refine rggx [2] ?_
         exact retF
       ·have gwin:=dsF (b:=[105,110,118,105,116,101]) hwin
        by_cases hwkn:m.w=knT
        ·have gwkn:=dsT (b:=[107,110,111,99,107]) hwkn
         cases hk:m.k
         ·have hv:othB m=false:=by simp [othB,oneB,htin,htba,htle,ha,hwba,hwjo,hwin,hwkn,hk,wne]
          rw [hv]
          have e2:oneB m.w [joT,baT]=false:=by simp [oneB,inM,htin,htba,htle,ha,hwba,hwjo,hwin,hwkn,hk,wne]
          have e3:oneB m.w [joT,inT,knT]=true:=by simp [oneB,inM,htin,htba,htle,ha,hwba,hwjo,hwin,hwkn,hk,wne]
          have hX:=and_true;refine pcx Tryz.func117 rfl Tryz.ntmps117 Tryz.results117 rfl ?_;intro w0 A
          have hX:=And.intro jb0 (And.intro gtin (And.intro gtba (And.intro gtle (And.intro ha (And.intro gwba (And.intro gwjo (And.intro gwin (And.intro gwkn (And.intro hk (And.intro e2 (e3)))))))))))
          have hK:=And.intro (k2) (And.intro (k3) trivial);refine rgx [1] ?_
          refine rgx [1,4] ?_
          refine rgx [1,4,5] ?_
          refine iffx ?_
          refine rgx [1,4,16] ?_
          refine iffx ?_
          refine rgx [1,24] ?_
          refine iftx ?_
          refine rggx [2] ?_
          exact retF
         ·have hv:othB m=true:=by simp [othB,oneB,htin,htba,htle,ha,hwba,hwjo,hwin,hwkn,hk,wne]
          rw [hv]
          have e2:oneB m.w [joT,baT]=false:=by simp [oneB,inM,htin,htba,htle,ha,hwba,hwjo,hwin,hwkn,hk,wne]
          have e3:oneB m.w [joT,inT,knT]=true:=by simp [oneB,inM,htin,htba,htle,ha,hwba,hwjo,hwin,hwkn,hk,wne]
          have hX:=and_true;refine pcx Tryz.func117 rfl Tryz.ntmps117 Tryz.results117 rfl ?_;intro w0 A
          have hX:=And.intro jb0 (And.intro gtin (And.intro gtba (And.intro gtle (And.intro ha (And.intro gwba (And.intro gwjo (And.intro gwin (And.intro gwkn (And.intro hk (And.intro e2 (e3)))))))))))
          have hK:=And.intro (k2) (And.intro (k3) trivial);refine rgx [1] ?_
          refine rgx [1,4] ?_
          refine rgx [1,4,5] ?_
          refine iffx ?_
          refine rgx [1,4,16] ?_
          refine iffx ?_
          refine rgx [1,24] ?_
          refine iftx ?_
          refine rggx [2] ?_
          exact retF
        ·have gwkn:=dsF (b:=[107,110,111,99,107]) hwkn
         have hv:othB m=false:=by simp [othB,oneB,htin,htba,htle,ha,hwba,hwjo,hwin,hwkn,wne]
         rw [hv]
         have e2:oneB m.w [joT,baT]=false:=by simp [oneB,inM,htin,htba,htle,ha,hwba,hwjo,hwin,hwkn,wne]
         have e3:oneB m.w [joT,inT,knT]=false:=by simp [oneB,inM,htin,htba,htle,ha,hwba,hwjo,hwin,hwkn,wne]
         have hX:=and_true;refine pcx Tryz.func117 rfl Tryz.ntmps117 Tryz.results117 rfl ?_;intro w0 A
         have hX:=And.intro jb0 (And.intro gtin (And.intro gtba (And.intro gtle (And.intro ha (And.intro gwba (And.intro gwjo (And.intro gwin (And.intro gwkn (And.intro e2 (e3))))))))))
         have hK:=And.intro (k2) (And.intro (k3) trivial);refine rgx [1] ?_
         refine rgx [1,4] ?_
         refine rgx [1,4,5] ?_
         refine iffx ?_
         refine rgx [1,4,16] ?_
         refine iffx ?_
         refine rgx [1,24] ?_
         refine iftx ?_
         refine rggx [2] ?_
         exact retF
   ·have gtle:=dsF (b:=[108,101,97,118,101]) htle
    have hv:othB m=false:=by simp [othB,oneB,htin,htba,htle,wne]
    rw [hv]
    have hX:=and_true;refine pcx Tryz.func117 rfl Tryz.ntmps117 Tryz.results117 rfl ?_;intro w0 A
    have hX:=And.intro jb0 (And.intro gtin (And.intro gtba (gtle)))
    have hK:=And.intro (k2) (And.intro (k3) trivial);refine rgx [1] ?_
    refine rgx [1,4] ?_
    refine rgx [1,4,5] ?_
    refine iffx ?_
    refine rgx [1,4,16] ?_
    refine iffx ?_
    refine rgx [1,24] ?_
    refine iffs ?_
    refine rgx [2] ?_
    exact retF
end Go.Proofs.YthphphlbedlicaaGreatDoor
