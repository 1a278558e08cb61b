/- Moves: whether they may be, as the document says: leave. (Written by gen_ud.py.) -/
import Derived.Test.YthphphlbedlicaaGreatDoorFPD
import Derived.Test.YthphphlbedlicaaGreatDoorFUM
set_option linter.unusedSimpArgs false
set_option linter.unusedVariables false
set_option maxRecDepth 10000
namespace Go.Proofs.YthphphlbedlicaaGreatDoor
open Go.RowKit
set_option maxHeartbeats 32000000 in
theorem vq3 (m:Mv) (ho:mvOk m=true) (ht:m.t=leT):PC (ja0 Tryz.prog) 87 [mvD m] (iD (mvE m)):=by
 have k1:=jn0 m
 have k2:=ki0 m.w
 have hp:ja4 (mvD m)=true:=rfl
 rw [ju4 ho] at k1
 have hX:=and_true;refine pcx Tryz.func87 rfl Tryz.ntmps87 Tryz.results87 rfl ?_;intro w0 A
 have hX:=And.intro hp (jb0)
 have hK:=And.intro (k1) trivial;refine rgx [1] ?_
 refine rgx [1,6] ?_
 refine iffs ?_
 refine rgx [1,3] ?_
 have gtle:=dsT (b:=[108,101,97,118,101]) ht
 have gtjo:=dsF (a:=m.t) (b:=[106,111,105,110]) (by rw [ht];decide)
 have gtin:=dsF (a:=m.t) (b:=[105,110,118,105,116,101]) (by rw [ht];decide)
 have gtba:=dsF (a:=m.t) (b:=[98,97,110]) (by rw [ht];decide)
 have gtkn:=dsF (a:=m.t) (b:=[107,110,111,99,107]) (by rw [ht];decide)
 cases hf:m.f
 ·by_cases hsjo:m.s=joT
  ·have gsjo:=dsT (b:=[106,111,105,110]) hsjo
   cases ha:m.a
   ·have hv:mvE m=12:=by simp [mvE,ownB,othB,oneB,ho,ht,hf,hsjo,ha,wne]
    rw [hv]
    have hX:=And.intro jb0 (And.intro hp (And.intro gtjo (And.intro gtin (And.intro gtle (And.intro gtba (And.intro gtkn (And.intro hf (And.intro gsjo (ha)))))))))
    have hK:=And.intro (k2) trivial;refine rgx [1,3,9] ?_
    refine iffs ?_
    refine rgx [1,3,34] ?_
    refine iffs ?_
    refine rgx [1,3,59] ?_
    refine iftx ?_
    refine rggx [1,3] ?_
    refine rgx [1,3,101] ?_
    refine iffs ?_
    refine rgx [1,3,120] ?_
    refine iffs ?_
    refine rgx [134] ?_
    refine iftx ?_
    refine rgx [2] ?_
    exact retF
   ·by_cases hwba:m.w=baT
    ·have gwba:=dsT (b:=[98,97,110]) hwba
     cases hb:m.b
     ·have hv:mvE m=12:=by simp [mvE,ownB,othB,oneB,ho,ht,hf,hsjo,ha,hwba,hb,wne]
      rw [hv]
      have e3:inM m.w=false:=by simp [oneB,inM,hf,hsjo,ha,hwba,hb,wne]
      have hX:=And.intro jb0 (And.intro hp (And.intro gtjo (And.intro gtin (And.intro gtle (And.intro gtba (And.intro gtkn (And.intro hf (And.intro gsjo (And.intro ha (And.intro gwba (And.intro hb (e3))))))))))))
      have hK:=And.intro (k2) trivial;refine rgx [1,3,9] ?_
      refine iffs ?_
      refine rgx [1,3,34] ?_
      refine iffs ?_
      refine rgx [1,3,59] ?_
      refine iftx ?_
      refine rggx [1,3] ?_
      refine rgx [1,3,101] ?_
      refine iffs ?_
      refine rgx [1,3,120] ?_
      refine iffs ?_
      refine rgx [134] ?_
      refine iftx ?_
      refine rgx [2] ?_
      exact retF
     ·have hv:mvE m=0:=by simp [mvE,ownB,othB,oneB,ho,ht,hf,hsjo,ha,hwba,hb,wne]
      rw [hv]
      have e3:inM m.w=false:=by simp [oneB,inM,hf,hsjo,ha,hwba,hb,wne]
      have hX:=And.intro jb0 (And.intro hp (And.intro gtjo (And.intro gtin (And.intro gtle (And.intro gtba (And.intro gtkn (And.intro hf (And.intro gsjo (And.intro ha (And.intro gwba (And.intro hb (e3))))))))))))
      have hK:=And.intro (k2) trivial;refine rgx [1,3,9] ?_
      refine iffs ?_
      refine rgx [1,3,34] ?_
      refine iffs ?_
      refine rgx [1,3,59] ?_
      refine iftx ?_
      refine rggx [1,3] ?_
      refine rgx [1,3,101] ?_
      refine iffs ?_
      refine rgx [1,3,120] ?_
      refine iffs ?_
      refine rgx [134] ?_
      refine iffs ?_
      refine rgx [2] ?_
      exact retF
    ·have gwba:=dsF (b:=[98,97,110]) hwba
     by_cases hwjo:m.w=joT
     ·have gwjo:=dsT (b:=[106,111,105,110]) hwjo
      cases hk:m.k
      ·have hv:mvE m=12:=by simp [mvE,ownB,othB,oneB,ho,ht,hf,hsjo,ha,hwba,hwjo,hk,wne]
       rw [hv]
       have e3:inM m.w=true:=by simp [oneB,inM,hf,hsjo,ha,hwba,hwjo,hk,wne]
       have hX:=And.intro jb0 (And.intro hp (And.intro gtjo (And.intro gtin (And.intro gtle (And.intro gtba (And.intro gtkn (And.intro hf (And.intro gsjo (And.intro ha (And.intro gwba (And.intro gwjo (And.intro hk (e3)))))))))))))
       have hK:=And.intro (k2) trivial;refine rgx [1,3,9] ?_
       refine iffs ?_
       refine rgx [1,3,34] ?_
       refine iffs ?_
       refine rgx [1,3,59] ?_
       refine iftx ?_
       refine rggx [1,3] ?_
       refine rgx [1,3,101] ?_
       refine iffs ?_
       refine rgx [1,3,120] ?_
       refine iffs ?_
       refine rgx [134] ?_
       refine iftx ?_
       refine rgx [2] ?_
       exact retF
      ·have hv:mvE m=0:=by simp [mvE,ownB,othB,oneB,ho,ht,hf,hsjo,ha,hwba,hwjo,hk,wne]
       rw [hv]
       have e3:inM m.w=true:=by simp [oneB,inM,hf,hsjo,ha,hwba,hwjo,hk,wne]
       have hX:=And.intro jb0 (And.intro hp (And.intro gtjo (And.intro gtin (And.intro gtle (And.intro gtba (And.intro gtkn (And.intro hf (And.intro gsjo (And.intro ha (And.intro gwba (And.intro gwjo (And.intro hk (e3)))))))))))))
       have hK:=And.intro (k2) trivial;refine rgx [1,3,9] ?_
       refine iffs ?_
       refine rgx [1,3,34] ?_
       refine iffs ?_
       refine rgx [1,3,59] ?_
       refine iftx ?_
       refine rggx [1,3] ?_
       refine rgx [1,3,101] ?_
       refine iffs ?_
       refine rgx [1,3,120] ?_
       refine iffs ?_
       refine rgx [134] ?_
       refine iffs ?_
       refine rgx [2] ?_
       exact retF
     ·have gwjo:=dsF (b:=[106,111,105,110]) hwjo
      by_cases hwin:m.w=inT
      ·have gwin:=dsT (b:=[105,110,118,105,116,101]) hwin
       cases hk:m.k
       ·have hv:mvE m=12:=by simp [mvE,ownB,othB,oneB,ho,ht,hf,hsjo,ha,hwba,hwjo,hwin,hk,wne]
        rw [hv]
        have e3:inM m.w=true:=by simp [oneB,inM,hf,hsjo,ha,hwba,hwjo,hwin,hk,wne]
        have hX:=And.intro jb0 (And.intro hp (And.intro gtjo (And.intro gtin (And.intro gtle (And.intro gtba (And.intro gtkn (And.intro hf (And.intro gsjo (And.intro ha (And.intro gwba (And.intro gwjo (And.intro gwin (And.intro hk (e3))))))))))))))
        have hK:=And.intro (k2) trivial;refine rgx [1,3,9] ?_
        refine iffs ?_
        refine rgx [1,3,34] ?_
        refine iffs ?_
        refine rgx [1,3,59] ?_
        refine iftx ?_
        refine rggx [1,3] ?_
        refine rgx [1,3,101] ?_
        refine iffs ?_
        refine rgx [1,3,120] ?_
        refine iffs ?_
        refine rgx [134] ?_
        refine iftx ?_
        refine rgx [2] ?_
        exact retF
       ·have hv:mvE m=0:=by simp [mvE,ownB,othB,oneB,ho,ht,hf,hsjo,ha,hwba,hwjo,hwin,hk,wne]
        rw [hv]
        have e3:inM m.w=true:=by simp [oneB,inM,hf,hsjo,ha,hwba,hwjo,hwin,hk,wne]
        have hX:=And.intro jb0 (And.intro hp (And.intro gtjo (And.intro gtin (And.intro gtle (And.intro gtba (And.intro gtkn (And.intro hf (And.intro gsjo (And.intro ha (And.intro gwba (And.intro gwjo (And.intro gwin (And.intro hk (e3))))))))))))))
        have hK:=And.intro (k2) trivial;refine rgx [1,3,9] ?_
        refine iffs ?_
        refine rgx [1,3,34] ?_
        refine iffs ?_
        refine rgx [1,3,59] ?_
        refine iftx ?_
        refine rggx [1,3] ?_
        refine rgx [1,3,101] ?_
        refine iffs ?_
        refine rgx [1,3,120] ?_
        refine iffs ?_
        refine rgx [134] ?_
        refine iffs ?_
        refine rgx [2] ?_
        exact retF
      ·have gwin:=dsF (b:=[105,110,118,105,116,101]) hwin
       by_cases hwkn:m.w=knT
       ·have gwkn:=dsT (b:=[107,110,111,99,107]) hwkn
        cases hk:m.k
        ·have hv:mvE m=12:=by simp [mvE,ownB,othB,oneB,ho,ht,hf,hsjo,ha,hwba,hwjo,hwin,hwkn,hk,wne]
         rw [hv]
         have e3:inM m.w=true:=by simp [oneB,inM,hf,hsjo,ha,hwba,hwjo,hwin,hwkn,hk,wne]
         have hX:=And.intro jb0 (And.intro hp (And.intro gtjo (And.intro gtin (And.intro gtle (And.intro gtba (And.intro gtkn (And.intro hf (And.intro gsjo (And.intro ha (And.intro gwba (And.intro gwjo (And.intro gwin (And.intro gwkn (And.intro hk (e3)))))))))))))))
         have hK:=And.intro (k2) trivial;refine rgx [1,3,9] ?_
         refine iffs ?_
         refine rgx [1,3,34] ?_
         refine iffs ?_
         refine rgx [1,3,59] ?_
         refine iftx ?_
         refine rggx [1,3] ?_
         refine rgx [1,3,101] ?_
         refine iffs ?_
         refine rgx [1,3,120] ?_
         refine iffs ?_
         refine rgx [134] ?_
         refine iftx ?_
         refine rgx [2] ?_
         exact retF
        ·have hv:mvE m=0:=by simp [mvE,ownB,othB,oneB,ho,ht,hf,hsjo,ha,hwba,hwjo,hwin,hwkn,hk,wne]
         rw [hv]
         have e3:inM m.w=true:=by simp [oneB,inM,hf,hsjo,ha,hwba,hwjo,hwin,hwkn,hk,wne]
         have hX:=And.intro jb0 (And.intro hp (And.intro gtjo (And.intro gtin (And.intro gtle (And.intro gtba (And.intro gtkn (And.intro hf (And.intro gsjo (And.intro ha (And.intro gwba (And.intro gwjo (And.intro gwin (And.intro gwkn (And.intro hk (e3)))))))))))))))
         have hK:=And.intro (k2) trivial;refine rgx [1,3,9] ?_
         refine iffs ?_
         refine rgx [1,3,34] ?_
         refine iffs ?_
         refine rgx [1,3,59] ?_
         refine iftx ?_
         refine rggx [1,3] ?_
         refine rgx [1,3,101] ?_
         refine iffs ?_
         refine rgx [1,3,120] ?_
         refine iffs ?_
         refine rgx [134] ?_
         refine iffs ?_
         refine rgx [2] ?_
         exact retF
       ·have gwkn:=dsF (b:=[107,110,111,99,107]) hwkn
        have hv:mvE m=12:=by simp [mvE,ownB,othB,oneB,ho,ht,hf,hsjo,ha,hwba,hwjo,hwin,hwkn,wne]
        rw [hv]
        have e3:inM m.w=false:=by simp [oneB,inM,hf,hsjo,ha,hwba,hwjo,hwin,hwkn,wne]
        have hX:=And.intro jb0 (And.intro hp (And.intro gtjo (And.intro gtin (And.intro gtle (And.intro gtba (And.intro gtkn (And.intro hf (And.intro gsjo (And.intro ha (And.intro gwba (And.intro gwjo (And.intro gwin (And.intro gwkn (e3))))))))))))))
        have hK:=And.intro (k2) trivial;refine rgx [1,3,9] ?_
        refine iffs ?_
        refine rgx [1,3,34] ?_
        refine iffs ?_
        refine rgx [1,3,59] ?_
        refine iftx ?_
        refine rggx [1,3] ?_
        refine rgx [1,3,101] ?_
        refine iffs ?_
        refine rgx [1,3,120] ?_
        refine iffs ?_
        refine rgx [134] ?_
        refine iftx ?_
        refine rgx [2] ?_
        exact retF
  ·have gsjo:=dsF (b:=[106,111,105,110]) hsjo
   have hv:mvE m=12:=by simp [mvE,ownB,othB,oneB,ho,ht,hf,hsjo,wne]
   rw [hv]
   have hX:=And.intro jb0 (And.intro hp (And.intro gtjo (And.intro gtin (And.intro gtle (And.intro gtba (And.intro gtkn (And.intro hf (gsjo))))))))
   have hK:=And.intro (k2) trivial;refine rgx [1,3,9] ?_
   refine iffs ?_
   refine rgx [1,3,34] ?_
   refine iffs ?_
   refine rgx [1,3,59] ?_
   refine iftx ?_
   refine rggx [1,3] ?_
   refine rgx [1,3,101] ?_
   refine iffs ?_
   refine rgx [1,3,120] ?_
   refine iffs ?_
   refine rgx [134] ?_
   refine iftx ?_
   refine rgx [2] ?_
   exact retF
 ·by_cases hwjo:m.w=joT
  ·have gwjo:=dsT (b:=[106,111,105,110]) hwjo
   have hv:mvE m=0:=by simp [mvE,ownB,othB,oneB,ho,ht,hf,hwjo,wne]
   rw [hv]
   have e3:inM m.w=true:=by simp [oneB,inM,hf,hwjo,wne]
   have hX:=And.intro jb0 (And.intro hp (And.intro gtjo (And.intro gtin (And.intro gtle (And.intro gtba (And.intro gtkn (And.intro hf (And.intro gwjo (e3)))))))))
   have hK:=And.intro (k2) trivial;refine rgx [1,3,9] ?_
   refine iffs ?_
   refine rgx [1,3,34] ?_
   refine iffs ?_
   refine rgx [1,3,59] ?_
   refine iftx ?_
   refine rggx [1,3] ?_
   refine rgx [1,3,101] ?_
   refine iffs ?_
   refine rgx [1,3,120] ?_
   refine iffs ?_
   refine rgx [134] ?_
   refine iffs ?_
   refine rgx [2] ?_
   exact retF
  ·have gwjo:=dsF (b:=[106,111,105,110]) hwjo
   by_cases hwin:m.w=inT
   ·have gwin:=dsT (b:=[105,110,118,105,116,101]) hwin
    have hv:mvE m=0:=by simp [mvE,ownB,othB,oneB,ho,ht,hf,hwjo,hwin,wne]
    rw [hv]
    have e3:inM m.w=true:=by simp [oneB,inM,hf,hwjo,hwin,wne]
    have hX:=And.intro jb0 (And.intro hp (And.intro gtjo (And.intro gtin (And.intro gtle (And.intro gtba (And.intro gtkn (And.intro hf (And.intro gwjo (And.intro gwin (e3))))))))))
    have hK:=And.intro (k2) trivial;refine rgx [1,3,9] ?_
    refine iffs ?_
    refine rgx [1,3,34] ?_
    refine iffs ?_
    refine rgx [1,3,59] ?_
    refine iftx ?_
    refine rggx [1,3] ?_
    refine rgx [1,3,101] ?_
    refine iffs ?_
    refine rgx [1,3,120] ?_
    refine iffs ?_
    refine rgx [134] ?_
    refine iffs ?_
    refine rgx [2] ?_
    exact retF
   ·have gwin:=dsF (b:=[105,110,118,105,116,101]) hwin
    by_cases hwkn:m.w=knT
    ·have gwkn:=dsT (b:=[107,110,111,99,107]) hwkn
     have hv:mvE m=0:=by simp [mvE,ownB,othB,oneB,ho,ht,hf,hwjo,hwin,hwkn,wne]
     rw [hv]
     have e3:inM m.w=true:=by simp [oneB,inM,hf,hwjo,hwin,hwkn,wne]
     have hX:=And.intro jb0 (And.intro hp (And.intro gtjo (And.intro gtin (And.intro gtle (And.intro gtba (And.intro gtkn (And.intro hf (And.intro gwjo (And.intro gwin (And.intro gwkn (e3)))))))))))
     have hK:=And.intro (k2) trivial;refine rgx [1,3,9] ?_
     refine iffs ?_
     refine rgx [1,3,34] ?_
     refine iffs ?_
     refine rgx [1,3,59] ?_
     refine iftx ?_
     refine rggx [1,3] ?_
     refine rgx [1,3,101] ?_
     refine iffs ?_
     refine rgx [1,3,120] ?_
     refine iffs ?_
     refine rgx [134] ?_
     refine iffs ?_
     refine rgx [2] ?_
     exact retF
    ·have gwkn:=dsF (b:=[107,110,111,99,107]) hwkn
     have hv:mvE m=12:=by simp [mvE,ownB,othB,oneB,ho,ht,hf,hwjo,hwin,hwkn,wne]
     rw [hv]
     have e3:inM m.w=false:=by simp [oneB,inM,hf,hwjo,hwin,hwkn,wne]
     have hX:=And.intro jb0 (And.intro hp (And.intro gtjo (And.intro gtin (And.intro gtle (And.intro gtba (And.intro gtkn (And.intro hf (And.intro gwjo (And.intro gwin (And.intro gwkn (e3)))))))))))
     have hK:=And.intro (k2) trivial;refine rgx [1,3,9] ?_
     refine iffs ?_
     refine rgx [1,3,34] ?_
     refine iffs ?_
     refine rgx [1,3,59] ?_
     refine iftx ?_
     refine rggx [1,3] ?_
     refine rgx [1,3,101] ?_
     refine iffs ?_
     refine rgx [1,3,120] ?_
     refine iffs ?_
     refine rgx [134] ?_
     refine iftx ?_
     refine rgx [2] ?_
     exact retF
end Go.Proofs.YthphphlbedlicaaGreatDoor
