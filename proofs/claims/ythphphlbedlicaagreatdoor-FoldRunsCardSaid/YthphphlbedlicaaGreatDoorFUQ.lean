/- Moves: whether they may be, as the document says: join. (Written by gen_ud.py.) Moves: whether they may be, as the document says: invite. (Written by gen_ud.py.) -/
import Derived.Test.YthphphlbedlicaaGreatDoorFPD
import Derived.Test.YthphphlbedlicaaGreatDoorFUM
set_option linter.unusedSimpArgs false
set_option linter.unusedVariables false
set_option maxRecDepth 10000
namespace Go.Proofs.YthphphlbedlicaaGreatDoor
open Go.RowKit
set_option maxHeartbeats 32000000 in
theorem vq1 (m:Mv) (ho:mvOk m=true) (ht:m.t=joT):PC (ja0 Tryz.prog) 87 [mvD m] (iD (mvE m)):=by
 have k1:=jn0 m
 have k2:=ki0 m.w
 have hp:ja4 (mvD m)=true:=rfl
 rw [ju4 ho] at k1
 have hX:=and_true;refine pcx Tryz.func87 rfl Tryz.ntmps87 Tryz.results87 rfl ?_;intro w0 A
 have hX:=And.intro hp (jb0)
 have hK:=And.intro (k1) trivial;refine rgx [1] ?_
 refine rgx [1,6] ?_
 refine iffs ?_
 refine rgx [1,3] ?_
 have gtjo:=dsT (b:=[106,111,105,110]) ht
 have gtin:=dsF (a:=m.t) (b:=[105,110,118,105,116,101]) (by rw [ht];decide)
 have gtle:=dsF (a:=m.t) (b:=[108,101,97,118,101]) (by rw [ht];decide)
 have gtba:=dsF (a:=m.t) (b:=[98,97,110]) (by rw [ht];decide)
 have gtkn:=dsF (a:=m.t) (b:=[107,110,111,99,107]) (by rw [ht];decide)
 cases hf:m.f
 ·have hv:mvE m=12:=by simp [mvE,ownB,othB,oneB,ho,ht,hf,wne]
  rw [hv]
  have hX:=And.intro jb0 (And.intro hp (And.intro gtjo (And.intro gtin (And.intro gtle (And.intro gtba (And.intro gtkn (hf)))))))
  have hK:=And.intro (k2) trivial;refine rgx [1,3,9] ?_
  refine iftx ?_
  refine rggx [1,3] ?_
  refine rgx [1,3,34] ?_
  refine iffs ?_
  refine rgx [1,3,59] ?_
  refine iffs ?_
  refine rgx [1,3,101] ?_
  refine iffs ?_
  refine rgx [1,3,120] ?_
  refine iffs ?_
  refine rgx [134] ?_
  refine iftx ?_
  refine rgx [2] ?_
  exact retF
 ·by_cases hwjo:m.w=joT
  ·have gwjo:=dsT (b:=[106,111,105,110]) hwjo
   have hv:mvE m=0:=by simp [mvE,ownB,othB,oneB,ho,ht,hf,hwjo,wne]
   rw [hv]
   have e3:inM m.w=true:=by simp [oneB,inM,hf,hwjo,wne]
   have hX:=And.intro jb0 (And.intro hp (And.intro gtjo (And.intro gtin (And.intro gtle (And.intro gtba (And.intro gtkn (And.intro hf (And.intro gwjo (e3)))))))))
   have hK:=And.intro (k2) trivial;refine rgx [1,3,9] ?_
   refine iftx ?_
   refine rggx [1,3] ?_
   refine rgx [1,3,34] ?_
   refine iffs ?_
   refine rgx [1,3,59] ?_
   refine iffs ?_
   refine rgx [1,3,101] ?_
   refine iffs ?_
   refine rgx [1,3,120] ?_
   refine iffs ?_
   refine rgx [134] ?_
   refine iffs ?_
   refine rgx [2] ?_
   exact retF
  ·have gwjo:=dsF (b:=[106,111,105,110]) hwjo
   by_cases hwba:m.w=baT
   ·have gwba:=dsT (b:=[98,97,110]) hwba
    have gwin:=dsF (a:=m.w) (b:=[105,110,118,105,116,101]) (by rw [hwba];decide)
    have hv:mvE m=12:=by simp [mvE,ownB,othB,oneB,ho,ht,hf,hwjo,hwba,wne]
    rw [hv]
    have e3:inM m.w=false:=by simp [oneB,inM,hf,hwjo,hwba,wne]
    have hX:=And.intro jb0 (And.intro hp (And.intro gtjo (And.intro gtin (And.intro gtle (And.intro gtba (And.intro gtkn (And.intro hf (And.intro gwjo (And.intro gwba (And.intro gwin (e3)))))))))))
    have hK:=And.intro (k2) trivial;refine rgx [1,3,9] ?_
    refine iftx ?_
    refine rggx [1,3] ?_
    refine rgx [1,3,34] ?_
    refine iffs ?_
    refine rgx [1,3,59] ?_
    refine iffs ?_
    refine rgx [1,3,101] ?_
    refine iffs ?_
    refine rgx [1,3,120] ?_
    refine iffs ?_
    refine rgx [134] ?_
    refine iftx ?_
    refine rgx [2] ?_
    exact retF
   ·have gwba:=dsF (b:=[98,97,110]) hwba
    by_cases hrpu:m.r=puT
    ·have grpu:=dsT (b:=[112,117,98,108,105,99]) hrpu
     have hv:mvE m=0:=by simp [mvE,ownB,othB,oneB,ho,ht,hf,hwjo,hwba,hrpu,wne]
     rw [hv]
     have hX:=And.intro jb0 (And.intro hp (And.intro gtjo (And.intro gtin (And.intro gtle (And.intro gtba (And.intro gtkn (And.intro hf (And.intro gwjo (And.intro gwba (grpu))))))))))
     have hK:=And.intro (k2) trivial;refine rgx [1,3,9] ?_
     refine iftx ?_
     refine rggx [1,3] ?_
     refine rgx [1,3,34] ?_
     refine iffs ?_
     refine rgx [1,3,59] ?_
     refine iffs ?_
     refine rgx [1,3,101] ?_
     refine iffs ?_
     refine rgx [1,3,120] ?_
     refine iffs ?_
     refine rgx [134] ?_
     refine iffs ?_
     refine rgx [2] ?_
     exact retF
    ·have grpu:=dsF (b:=[112,117,98,108,105,99]) hrpu
     by_cases hwin:m.w=inT
     ·have gwin:=dsT (b:=[105,110,118,105,116,101]) hwin
      have hv:mvE m=0:=by simp [mvE,ownB,othB,oneB,ho,ht,hf,hwjo,hwba,hrpu,hwin,wne]
      rw [hv]
      have e3:inM m.w=true:=by simp [oneB,inM,hf,hwjo,hwba,hrpu,hwin,wne]
      have hX:=And.intro jb0 (And.intro hp (And.intro gtjo (And.intro gtin (And.intro gtle (And.intro gtba (And.intro gtkn (And.intro hf (And.intro gwjo (And.intro gwba (And.intro grpu (And.intro gwin (e3))))))))))))
      have hK:=And.intro (k2) trivial;refine rgx [1,3,9] ?_
      refine iftx ?_
      refine rggx [1,3] ?_
      refine rgx [1,3,34] ?_
      refine iffs ?_
      refine rgx [1,3,59] ?_
      refine iffs ?_
      refine rgx [1,3,101] ?_
      refine iffs ?_
      refine rgx [1,3,120] ?_
      refine iffs ?_
      refine rgx [134] ?_
      refine iffs ?_
      refine rgx [2] ?_
      exact retF
     ·have gwin:=dsF (b:=[105,110,118,105,116,101]) hwin
      have hv:mvE m=12:=by simp [mvE,ownB,othB,oneB,ho,ht,hf,hwjo,hwba,hrpu,hwin,wne]
      rw [hv]
      have hX:=And.intro jb0 (And.intro hp (And.intro gtjo (And.intro gtin (And.intro gtle (And.intro gtba (And.intro gtkn (And.intro hf (And.intro gwjo (And.intro gwba (And.intro grpu (gwin)))))))))))
      have hK:=And.intro (k2) trivial;refine rgx [1,3,9] ?_
      refine iftx ?_
      refine rggx [1,3] ?_
      refine rgx [1,3,34] ?_
      refine iffs ?_
      refine rgx [1,3,59] ?_
      refine iffs ?_
      refine rgx [1,3,101] ?_
      refine iffs ?_
      refine rgx [1,3,120] ?_
      refine iffs ?_
      refine rgx [134] ?_
      refine iftx ?_
      refine rgx [2] ?_
      exact retF
set_option maxHeartbeats 32000000 in
theorem vq0 (m:Mv) (ho:mvOk m=true) (ht:m.t=inT):PC (ja0 Tryz.prog) 87 [mvD m] (iD (mvE m)):=by
 have k1:=jn0 m
 have k2:=ki0 m.w
 have hp:ja4 (mvD m)=true:=rfl
 rw [ju4 ho] at k1
 have hX:=and_true;refine pcx Tryz.func87 rfl Tryz.ntmps87 Tryz.results87 rfl ?_;intro w0 A
 have hX:=And.intro hp (jb0)
 have hK:=And.intro (k1) trivial;refine rgx [1] ?_
 refine rgx [1,6] ?_
 refine iffs ?_
 refine rgx [1,3] ?_
 have gtin:=dsT (b:=[105,110,118,105,116,101]) ht
 have gtjo:=dsF (a:=m.t) (b:=[106,111,105,110]) (by rw [ht];decide)
 have gtle:=dsF (a:=m.t) (b:=[108,101,97,118,101]) (by rw [ht];decide)
 have gtba:=dsF (a:=m.t) (b:=[98,97,110]) (by rw [ht];decide)
 have gtkn:=dsF (a:=m.t) (b:=[107,110,111,99,107]) (by rw [ht];decide)
 cases hf:m.f
 ·by_cases hsjo:m.s=joT
  ·have gsjo:=dsT (b:=[106,111,105,110]) hsjo
   by_cases hwjo:m.w=joT
   ·have gwjo:=dsT (b:=[106,111,105,110]) hwjo
    have hv:mvE m=12:=by simp [mvE,ownB,othB,oneB,ho,ht,hf,hsjo,hwjo,wne]
    rw [hv]
    have e3:inM m.w=true:=by simp [oneB,inM,hf,hsjo,hwjo,wne]
    have hX:=And.intro jb0 (And.intro hp (And.intro gtjo (And.intro gtin (And.intro gtle (And.intro gtba (And.intro gtkn (And.intro hf (And.intro gsjo (And.intro gwjo (e3))))))))))
    have hK:=And.intro (k2) trivial;refine rgx [1,3,9] ?_
    refine iffs ?_
    refine rgx [1,3,34] ?_
    refine iftx ?_
    refine rggx [1,3] ?_
    refine rgx [1,3,59] ?_
    refine iffs ?_
    refine rgx [1,3,101] ?_
    refine iffs ?_
    refine rgx [1,3,120] ?_
    refine iffs ?_
    refine rgx [134] ?_
    refine iftx ?_
    refine rgx [2] ?_
    exact retF
   ·have gwjo:=dsF (b:=[106,111,105,110]) hwjo
    by_cases hwba:m.w=baT
    ·have gwba:=dsT (b:=[98,97,110]) hwba
     have hv:mvE m=12:=by simp [mvE,ownB,othB,oneB,ho,ht,hf,hsjo,hwjo,hwba,wne]
     rw [hv]
     have e3:inM m.w=false:=by simp [oneB,inM,hf,hsjo,hwjo,hwba,wne]
     have hX:=And.intro jb0 (And.intro hp (And.intro gtjo (And.intro gtin (And.intro gtle (And.intro gtba (And.intro gtkn (And.intro hf (And.intro gsjo (And.intro gwjo (And.intro gwba (e3)))))))))))
     have hK:=And.intro (k2) trivial;refine rgx [1,3,9] ?_
     refine iffs ?_
     refine rgx [1,3,34] ?_
     refine iftx ?_
     refine rggx [1,3] ?_
     refine rgx [1,3,59] ?_
     refine iffs ?_
     refine rgx [1,3,101] ?_
     refine iffs ?_
     refine rgx [1,3,120] ?_
     refine iffs ?_
     refine rgx [134] ?_
     refine iftx ?_
     refine rgx [2] ?_
     exact retF
    ·have gwba:=dsF (b:=[98,97,110]) hwba
     cases hi:m.i
     ·have hv:mvE m=12:=by simp [mvE,ownB,othB,oneB,ho,ht,hf,hsjo,hwjo,hwba,hi,wne]
      rw [hv]
      have hX:=And.intro jb0 (And.intro hp (And.intro gtjo (And.intro gtin (And.intro gtle (And.intro gtba (And.intro gtkn (And.intro hf (And.intro gsjo (And.intro gwjo (And.intro gwba (hi)))))))))))
      have hK:=And.intro (k2) trivial;refine rgx [1,3,9] ?_
      refine iffs ?_
      refine rgx [1,3,34] ?_
      refine iftx ?_
      refine rggx [1,3] ?_
      refine rgx [1,3,59] ?_
      refine iffs ?_
      refine rgx [1,3,101] ?_
      refine iffs ?_
      refine rgx [1,3,120] ?_
      refine iffs ?_
      refine rgx [134] ?_
      refine iftx ?_
      refine rgx [2] ?_
      exact retF
     ·have hv:mvE m=0:=by simp [mvE,ownB,othB,oneB,ho,ht,hf,hsjo,hwjo,hwba,hi,wne]
      rw [hv]
      have hX:=And.intro jb0 (And.intro hp (And.intro gtjo (And.intro gtin (And.intro gtle (And.intro gtba (And.intro gtkn (And.intro hf (And.intro gsjo (And.intro gwjo (And.intro gwba (hi)))))))))))
      have hK:=And.intro (k2) trivial;refine rgx [1,3,9] ?_
      refine iffs ?_
      refine rgx [1,3,34] ?_
      refine iftx ?_
      refine rggx [1,3] ?_
      refine rgx [1,3,59] ?_
      refine iffs ?_
      refine rgx [1,3,101] ?_
      refine iffs ?_
      refine rgx [1,3,120] ?_
      refine iffs ?_
      refine rgx [134] ?_
      refine iffs ?_
      refine rgx [2] ?_
      exact retF
  ·have gsjo:=dsF (b:=[106,111,105,110]) hsjo
   have hv:mvE m=12:=by simp [mvE,ownB,othB,oneB,ho,ht,hf,hsjo,wne]
   rw [hv]
   have hX:=And.intro jb0 (And.intro hp (And.intro gtjo (And.intro gtin (And.intro gtle (And.intro gtba (And.intro gtkn (And.intro hf (gsjo))))))))
   have hK:=And.intro (k2) trivial;refine rgx [1,3,9] ?_
   refine iffs ?_
   refine rgx [1,3,34] ?_
   refine iftx ?_
   refine rggx [1,3] ?_
   refine rgx [1,3,59] ?_
   refine iffs ?_
   refine rgx [1,3,101] ?_
   refine iffs ?_
   refine rgx [1,3,120] ?_
   refine iffs ?_
   refine rgx [134] ?_
   refine iftx ?_
   refine rgx [2] ?_
   exact retF
 ·have hv:mvE m=12:=by simp [mvE,ownB,othB,oneB,ho,ht,hf,wne]
  rw [hv]
  have hX:=And.intro jb0 (And.intro hp (And.intro gtjo (And.intro gtin (And.intro gtle (And.intro gtba (And.intro gtkn (hf)))))))
  have hK:=And.intro (k2) trivial;refine rgx [1,3,9] ?_
  refine iffs ?_
  refine rgx [1,3,34] ?_
  refine iftx ?_
  refine rggx [1,3] ?_
  refine rgx [1,3,59] ?_
  refine iffs ?_
  refine rgx [1,3,101] ?_
  refine iffs ?_
  refine rgx [1,3,120] ?_
  refine iffs ?_
  refine rgx [134] ?_
  refine iftx ?_
  refine rgx [2] ?_
  exact retF
end Go.Proofs.YthphphlbedlicaaGreatDoor
