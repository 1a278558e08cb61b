/- Moves: whether they may be, as the document says: ban, knock. (Written by gen_ud.py.) Moves: whether they may be, as the document says. (Written by gen_ud.py.) -/
import Derived.Test.YthphphlbedlicaaGreatDoorFPD
import Derived.Test.YthphphlbedlicaaGreatDoorFUM
import Derived.Test.YthphphlbedlicaaGreatDoorFUQ
import Derived.Test.YthphphlbedlicaaGreatDoorFUS
set_option linter.unusedSimpArgs false
set_option linter.unusedVariables false
set_option maxRecDepth 10000
namespace Go.Proofs.YthphphlbedlicaaGreatDoor
open Go.RowKit
set_option maxHeartbeats 32000000 in
theorem vp9 (m:Mv) (ho:mvOk m=true) (ht:m.t=baT):PC (ja0 Tryz.prog) 87 [mvD m] (iD (mvE m)):=by
 have k1:=jn0 m
 have k2:=ki0 m.w
 have hp:ja4 (mvD m)=true:=rfl
 rw [ju4 ho] at k1
 have hX:=and_true;refine pcx Tryz.func87 rfl Tryz.ntmps87 Tryz.results87 rfl ?_;intro w0 A
 have hX:=And.intro hp (jb0)
 have hK:=And.intro (k1) trivial;refine rgx [1] ?_
 refine rgx [1,6] ?_
 refine iffs ?_
 refine rgx [1,3] ?_
 have gtba:=dsT (b:=[98,97,110]) ht
 have gtjo:=dsF (a:=m.t) (b:=[106,111,105,110]) (by rw [ht];decide)
 have gtin:=dsF (a:=m.t) (b:=[105,110,118,105,116,101]) (by rw [ht];decide)
 have gtle:=dsF (a:=m.t) (b:=[108,101,97,118,101]) (by rw [ht];decide)
 have gtkn:=dsF (a:=m.t) (b:=[107,110,111,99,107]) (by rw [ht];decide)
 cases hf:m.f
 ·by_cases hsjo:m.s=joT
  ·have gsjo:=dsT (b:=[106,111,105,110]) hsjo
   cases ha:m.a
   ·have hv:mvE m=12:=by simp [mvE,ownB,othB,oneB,ho,ht,hf,hsjo,ha,wne]
    rw [hv]
    have hX:=And.intro jb0 (And.intro hp (And.intro gtjo (And.intro gtin (And.intro gtle (And.intro gtba (And.intro gtkn (And.intro hf (And.intro gsjo (ha)))))))))
    have hK:=And.intro (k2) trivial;refine rgx [1,3,9] ?_
    refine iffs ?_
    refine rgx [1,3,34] ?_
    refine iffs ?_
    refine rgx [1,3,59] ?_
    refine iffs ?_
    refine rgx [1,3,101] ?_
    refine iftx ?_
    refine rggx [1,3] ?_
    refine rgx [1,3,120] ?_
    refine iffs ?_
    refine rgx [134] ?_
    refine iftx ?_
    refine rgx [2] ?_
    exact retF
   ·cases hb:m.b
    ·have hv:mvE m=12:=by simp [mvE,ownB,othB,oneB,ho,ht,hf,hsjo,ha,hb,wne]
     rw [hv]
     have hX:=And.intro jb0 (And.intro hp (And.intro gtjo (And.intro gtin (And.intro gtle (And.intro gtba (And.intro gtkn (And.intro hf (And.intro gsjo (And.intro ha (hb))))))))))
     have hK:=And.intro (k2) trivial;refine rgx [1,3,9] ?_
     refine iffs ?_
     refine rgx [1,3,34] ?_
     refine iffs ?_
     refine rgx [1,3,59] ?_
     refine iffs ?_
     refine rgx [1,3,101] ?_
     refine iftx ?_
     refine rggx [1,3] ?_
     refine rgx [1,3,120] ?_
     refine iffs ?_
     refine rgx [134] ?_
     refine iftx ?_
     refine rgx [2] ?_
     exact retF
    ·have hv:mvE m=0:=by simp [mvE,ownB,othB,oneB,ho,ht,hf,hsjo,ha,hb,wne]
     rw [hv]
     have hX:=And.intro jb0 (And.intro hp (And.intro gtjo (And.intro gtin (And.intro gtle (And.intro gtba (And.intro gtkn (And.intro hf (And.intro gsjo (And.intro ha (hb))))))))))
     have hK:=And.intro (k2) trivial;refine rgx [1,3,9] ?_
     refine iffs ?_
     refine rgx [1,3,34] ?_
     refine iffs ?_
     refine rgx [1,3,59] ?_
     refine iffs ?_
     refine rgx [1,3,101] ?_
     refine iftx ?_
     refine rggx [1,3] ?_
     refine rgx [1,3,120] ?_
     refine iffs ?_
     refine rgx [134] ?_
     refine iffs ?_
     refine rgx [2] ?_
     exact retF
  ·have gsjo:=dsF (b:=[106,111,105,110]) hsjo
   have hv:mvE m=12:=by simp [mvE,ownB,othB,oneB,ho,ht,hf,hsjo,wne]
   rw [hv]
   have hX:=And.intro jb0 (And.intro hp (And.intro gtjo (And.intro gtin (And.intro gtle (And.intro gtba (And.intro gtkn (And.intro hf (gsjo))))))))
   have hK:=And.intro (k2) trivial;refine rgx [1,3,9] ?_
   refine iffs ?_
   refine rgx [1,3,34] ?_
   refine iffs ?_
   refine rgx [1,3,59] ?_
   refine iffs ?_
   refine rgx [1,3,101] ?_
   refine iftx ?_
   refine rggx [1,3] ?_
   refine rgx [1,3,120] ?_
   refine iffs ?_
   refine rgx [134] ?_
   refine iftx ?_
   refine rgx [2] ?_
   exact retF
 ·have hv:mvE m=12:=by simp [mvE,ownB,othB,oneB,ho,ht,hf,wne]
  rw [hv]
  have hX:=And.intro jb0 (And.intro hp (And.intro gtjo (And.intro gtin (And.intro gtle (And.intro gtba (And.intro gtkn (hf)))))))
  have hK:=And.intro (k2) trivial;refine rgx [1,3,9] ?_
  refine iffs ?_
  refine rgx [1,3,34] ?_
  refine iffs ?_
  refine rgx [1,3,59] ?_
  refine iffs ?_
  refine rgx [1,3,101] ?_
  refine iftx ?_
  refine rggx [1,3] ?_
  refine rgx [1,3,120] ?_
  refine iffs ?_
  refine rgx [134] ?_
  refine iftx ?_
  refine rgx [2] ?_
  exact retF
set_option maxHeartbeats 32000000 in
theorem vq2 (m:Mv) (ho:mvOk m=true) (ht:m.t=knT):PC (ja0 Tryz.prog) 87 [mvD m] (iD (mvE m)):=by
 have k1:=jn0 m
 have k2:=ki0 m.w
 have hp:ja4 (mvD m)=true:=rfl
 rw [ju4 ho] at k1
 have hX:=and_true;refine pcx Tryz.func87 rfl Tryz.ntmps87 Tryz.results87 rfl ?_;intro w0 A
 have hX:=And.intro hp (jb0)
 have hK:=And.intro (k1) trivial;refine rgx [1] ?_
 refine rgx [1,6] ?_
 refine iffs ?_
 refine rgx [1,3] ?_
 have gtkn:=dsT (b:=[107,110,111,99,107]) ht
 have gtjo:=dsF (a:=m.t) (b:=[106,111,105,110]) (by rw [ht];decide)
 have gtin:=dsF (a:=m.t) (b:=[105,110,118,105,116,101]) (by rw [ht];decide)
 have gtle:=dsF (a:=m.t) (b:=[108,101,97,118,101]) (by rw [ht];decide)
 have gtba:=dsF (a:=m.t) (b:=[98,97,110]) (by rw [ht];decide)
 cases hf:m.f
 ·have hv:mvE m=12:=by simp [mvE,ownB,othB,oneB,ho,ht,hf,wne]
  rw [hv]
  have hX:=And.intro jb0 (And.intro hp (And.intro gtjo (And.intro gtin (And.intro gtle (And.intro gtba (And.intro gtkn (hf)))))))
  have hK:=And.intro (k2) trivial;refine rgx [1,3,9] ?_
  refine iffs ?_
  refine rgx [1,3,34] ?_
  refine iffs ?_
  refine rgx [1,3,59] ?_
  refine iffs ?_
  refine rgx [1,3,101] ?_
  refine iffs ?_
  refine rgx [1,3,120] ?_
  refine iftx ?_
  refine rggx [3] ?_
  refine rgx [134] ?_
  refine iftx ?_
  refine rgx [2] ?_
  exact retF
 ·by_cases hrkn:m.r=knT
  ·have grkn:=dsT (b:=[107,110,111,99,107]) hrkn
   by_cases hwle:m.w=leT
   ·have gwle:=dsT (b:=[108,101,97,118,101]) hwle
    have hv:mvE m=0:=by simp [mvE,ownB,othB,oneB,ho,ht,hf,hrkn,hwle,wne]
    rw [hv]
    have e3:inM m.w=false:=by simp [oneB,inM,hf,hrkn,hwle,wne]
    have hX:=And.intro jb0 (And.intro hp (And.intro gtjo (And.intro gtin (And.intro gtle (And.intro gtba (And.intro gtkn (And.intro hf (And.intro grkn (And.intro gwle (e3))))))))))
    have hK:=And.intro (k2) trivial;refine rgx [1,3,9] ?_
    refine iffs ?_
    refine rgx [1,3,34] ?_
    refine iffs ?_
    refine rgx [1,3,59] ?_
    refine iffs ?_
    refine rgx [1,3,101] ?_
    refine iffs ?_
    refine rgx [1,3,120] ?_
    refine iftx ?_
    refine rggx [3] ?_
    refine rgx [134] ?_
    refine iffs ?_
    refine rgx [2] ?_
    exact retF
   ·have gwle:=dsF (b:=[108,101,97,118,101]) hwle
    have hv:mvE m=12:=by simp [mvE,ownB,othB,oneB,ho,ht,hf,hrkn,hwle,wne]
    rw [hv]
    have hX:=And.intro jb0 (And.intro hp (And.intro gtjo (And.intro gtin (And.intro gtle (And.intro gtba (And.intro gtkn (And.intro hf (And.intro grkn (gwle)))))))))
    have hK:=And.intro (k2) trivial;refine rgx [1,3,9] ?_
    refine iffs ?_
    refine rgx [1,3,34] ?_
    refine iffs ?_
    refine rgx [1,3,59] ?_
    refine iffs ?_
    refine rgx [1,3,101] ?_
    refine iffs ?_
    refine rgx [1,3,120] ?_
    refine iftx ?_
    refine rggx [3] ?_
    refine rgx [134] ?_
    refine iftx ?_
    refine rgx [2] ?_
    exact retF
  ·have grkn:=dsF (b:=[107,110,111,99,107]) hrkn
   have hv:mvE m=12:=by simp [mvE,ownB,othB,oneB,ho,ht,hf,hrkn,wne]
   rw [hv]
   have hX:=And.intro jb0 (And.intro hp (And.intro gtjo (And.intro gtin (And.intro gtle (And.intro gtba (And.intro gtkn (And.intro hf (grkn))))))))
   have hK:=And.intro (k2) trivial;refine rgx [1,3,9] ?_
   refine iffs ?_
   refine rgx [1,3,34] ?_
   refine iffs ?_
   refine rgx [1,3,59] ?_
   refine iffs ?_
   refine rgx [1,3,101] ?_
   refine iffs ?_
   refine rgx [1,3,120] ?_
   refine iftx ?_
   refine rggx [3] ?_
   refine rgx [134] ?_
   refine iftx ?_
   refine rgx [2] ?_
   exact retF
theorem qw7 {m:Mv} (ho:mvOk m=true):m.t=joT∨m.t=inT∨m.t=leT∨m.t=baT∨m.t=knT:=by
 unfold mvOk at ho
 simp only [Bool.and_eq_true] at ho
 exact isM_iff.1 ho.2.2.2
set_option maxHeartbeats 32000000 in
theorem qx5 (m:Mv):PC (ja0 Tryz.prog) 87 [mvD m] (iD (mvE m)):=by
 have k1:=jn0 m
 have hp:ja4 (mvD m)=true:=rfl
 cases ho:mvOk m
 ·rw [qe1 ho]
  rw [qe0 ho] at k1
  have hX:=and_true;refine pcx Tryz.func87 rfl Tryz.ntmps87 Tryz.results87 rfl ?_;intro w0 A
  have hX:=And.intro hp (jb0)
  have hK:=And.intro (k1) trivial;refine rgx [1] ?_
  refine rgx [1,6] ?_
  refine iftx ?_
  refine rgx [2] ?_
  exact retF
 rcases qw7 ho with ht|ht|ht|ht|ht
 ·exact vq1 m ho ht
 ·exact vq0 m ho ht
 ·exact vq3 m ho ht
 ·exact vp9 m ho ht
 ·exact vq2 m ho ht
end Go.Proofs.YthphphlbedlicaaGreatDoor
