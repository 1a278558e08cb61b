/- Moves: whether they may be (package member). (Written by gen_ud.py.) -/
import Derived.Test.YthphphlbedlicaaGreatDoorFPD
import Derived.Test.YthphphlbedlicaaGreatDoorFUM
import Derived.Test.YthphphlbedlicaaGreatDoorFUN
set_option linter.unusedSimpArgs false
set_option linter.unusedVariables false
set_option maxRecDepth 10000
namespace Go.Proofs.YthphphlbedlicaaGreatDoor
open Go.RowKit
set_option maxHeartbeats 16000000 in
theorem kl2 (m:Mv):PC (ja0 Tryz.prog) 74 [mvD m] (iD (mvE m)):=by
 obtain ⟨r,s,w,t,f,i,k,b,a⟩:=m
 have k1:=vg4 ⟨r,s,w,t,f,i,k,b,a⟩
 have k2:=vo8 ⟨r,s,w,t,f,i,k,b,a⟩
 have k3:=vo7 ⟨r,s,w,t,f,i,k,b,a⟩
 have hp:ja4 (mvD ⟨r,s,w,t,f,i,k,b,a⟩)=true:=rfl
 cases ho:mvOk ⟨r,s,w,t,f,i,k,b,a⟩
 ·rw [qe1 ho]
  rw [qe0 ho] at k1
  have hX:=and_true;refine pcx Tryz.func74 rfl Tryz.ntmps74 Tryz.results74 rfl ?_;intro w0 A
  have hX:=And.intro hp (kc3)
  have hK:=And.intro (k1) trivial;refine rgx [1] ?_
  refine rgx [1,3] ?_
  refine rgx [1,3,6] ?_
  refine iftx ?_
  refine rgx [2] ?_
  exact retF
 rw [ju4 ho] at k1
 cases f
 ·by_cases hs:s=joT
  ·have gs:=dsT (b:=[106,111,105,110]) hs
   rw [vg2 ho rfl hs]
   cases hb:othB ⟨r,s,w,t,false,i,k,b,a⟩
   ·rw [hb] at k3
    have hX:=and_true;refine pcx Tryz.func74 rfl Tryz.ntmps74 Tryz.results74 rfl ?_;intro w0 A
    have hX:=And.intro hp (And.intro kc3 (gs))
    have hK:=And.intro (k1) (And.intro (k3) trivial);refine rgx [1] ?_
    refine rgx [1,3] ?_
    refine rgx [1,3,6] ?_
    refine iffx ?_
    refine rggx [1,10] ?_
    refine iffx ?_
    refine rggx [10] ?_
    refine iffs ?_
    refine rgx [2] ?_
    exact retF
   ·rw [hb] at k3
    have hX:=and_true;refine pcx Tryz.func74 rfl Tryz.ntmps74 Tryz.results74 rfl ?_;intro w0 A
    have hX:=And.intro hp (And.intro kc3 (gs))
    have hK:=And.intro (k1) (And.intro (k3) trivial);refine rgx [1] ?_
    refine rgx [1,3] ?_
    refine rgx [1,3,6] ?_
    refine iffx ?_
    refine rggx [1,10] ?_
    refine iffx ?_
    refine rggx [10] ?_
    refine iftx ?_
    refine rgx [2] ?_
    exact retF
  ·have gs:=dsF (b:=[106,111,105,110]) hs
   rw [vo9 ho rfl hs]
   have hX:=and_true;refine pcx Tryz.func74 rfl Tryz.ntmps74 Tryz.results74 rfl ?_;intro w0 A
   have hX:=And.intro hp (And.intro kc3 (gs))
   have hK:=And.intro (k1) trivial;refine rgx [1] ?_
   refine rgx [1,3] ?_
   refine rgx [1,3,6] ?_
   refine iffx ?_
   refine rggx [1,10] ?_
   refine iffx ?_
   refine rggx [10] ?_
   refine iffs ?_
   refine rgx [2] ?_
   exact retF
 ·rw [vg3 ho rfl]
  cases hb:ownB ⟨r,s,w,t,true,i,k,b,a⟩
  ·rw [hb] at k2
   have hX:=and_true;refine pcx Tryz.func74 rfl Tryz.ntmps74 Tryz.results74 rfl ?_;intro w0 A
   have hX:=And.intro hp (kc3)
   have hK:=And.intro (k1) (And.intro (k2) trivial);refine rgx [1] ?_
   refine rgx [1,3] ?_
   refine rgx [1,3,6] ?_
   refine iffx ?_
   refine rggx [1,10] ?_
   refine iffx ?_
   refine rggx [10] ?_
   refine iffs ?_
   refine rgx [2] ?_
   exact retF
  ·rw [hb] at k2
   have hX:=and_true;refine pcx Tryz.func74 rfl Tryz.ntmps74 Tryz.results74 rfl ?_;intro w0 A
   have hX:=And.intro hp (kc3)
   have hK:=And.intro (k1) (And.intro (k2) trivial);refine rgx [1] ?_
   refine rgx [1,3] ?_
   refine rgx [1,3,6] ?_
   refine iffx ?_
   refine rggx [1,10] ?_
   refine ifts ?_
   refine iftx ?_
   refine rgx [2] ?_
   exact retF
end Go.Proofs.YthphphlbedlicaaGreatDoor
