/- Moves: whether they may be (package member). (Written by gen_ud.py.) -/
import Derived.Test.YtegfnhibmhjdbaaGreatDoorAPD
import Derived.Test.YtegfnhibmhjdbaaGreatDoorAUL
import Derived.Test.YtegfnhibmhjdbaaGreatDoorAUM
import Derived.Test.YtegfnhibmhjdbaaGreatDoorAUN
set_option linter.unusedSimpArgs false
set_option linter.unusedVariables false
set_option maxRecDepth 10000
namespace Go.Proofs.YtegfnhibmhjdbaaGreatDoor
open Go.RowKit
set_option maxHeartbeats 16000000 in
theorem kk9 (m:Mv):PC (ja6 Tryz.prog) 103 [mvD m] (iD (mvE m)):=by
 obtain ⟨r,s,w,t,f,i,k,b,a⟩:=m
 have k1:=vd0 ⟨r,s,w,t,f,i,k,b,a⟩
 have k2:=vk4 ⟨r,s,w,t,f,i,k,b,a⟩
 have k3:=vk3 ⟨r,s,w,t,f,i,k,b,a⟩
 have hp:jb0 (mvD ⟨r,s,w,t,f,i,k,b,a⟩)=true:=rfl
 cases ho:mvOk ⟨r,s,w,t,f,i,k,b,a⟩
 ·rw [qd1 ho]
  rw [qd0 ho] at k1
  have hX:=and_true;refine pcx Tryz.func103 rfl Tryz.ntmps103 Tryz.results103 rfl ?_;intro w0 A
  have hX:=And.intro hp (kc4)
  have hK:=And.intro (k1) trivial;(repeat refine ja0 ?_);refine rgx [1] ?_
  (repeat refine ja0 ?_);refine rgx [1,3] ?_
  (repeat refine ja0 ?_);refine ja5 ?_
  (repeat refine ja0 ?_);refine rgx [1,3,6] ?_
  (repeat refine ja0 ?_);refine iftx ?_
  (repeat refine ja0 ?_);refine rgx [2] ?_
  (repeat refine ja0 ?_);refine ja3 ?_;refine retx ?_;(try dsimp only [outV,ja4])
  exact ja2 rfl
 rw [ju5 ho] at k1
 cases f
 ·by_cases hs:s=joT
  ·have gs:=dsT (b:=[106,111,105,110]) hs
   rw [vc8 ho rfl hs]
   cases hb:othB ⟨r,s,w,t,false,i,k,b,a⟩
   ·rw [hb] at k3
    have hX:=and_true;refine pcx Tryz.func103 rfl Tryz.ntmps103 Tryz.results103 rfl ?_;intro w0 A
    have hX:=And.intro hp (And.intro kc4 (gs))
    have hK:=And.intro (k1) (And.intro (k3) trivial);(repeat refine ja0 ?_);refine rgx [1] ?_
    (repeat refine ja0 ?_);refine rgx [1,3] ?_
    (repeat refine ja0 ?_);refine ja5 ?_
    (repeat refine ja0 ?_);refine rgx [1,3,6] ?_
    (repeat refine ja0 ?_);refine iffx ?_
    (repeat refine ja0 ?_);refine rggx [1,10] ?_
    (repeat refine ja0 ?_);refine iffx ?_
    (repeat refine ja0 ?_);refine rggx [10] ?_
    (repeat refine ja0 ?_);refine iffx ?_
    (repeat refine ja0 ?_);refine ja1 ?_
    (repeat refine ja0 ?_);refine rgx [2] ?_
    (repeat refine ja0 ?_);refine ja3 ?_;refine retx ?_;(try dsimp only [outV,ja4])
    exact ja2 rfl
   ·rw [hb] at k3
    have hX:=and_true;refine pcx Tryz.func103 rfl Tryz.ntmps103 Tryz.results103 rfl ?_;intro w0 A
    have hX:=And.intro hp (And.intro kc4 (gs))
    have hK:=And.intro (k1) (And.intro (k3) trivial);(repeat refine ja0 ?_);refine rgx [1] ?_
    (repeat refine ja0 ?_);refine rgx [1,3] ?_
    (repeat refine ja0 ?_);refine ja5 ?_
    (repeat refine ja0 ?_);refine rgx [1,3,6] ?_
    (repeat refine ja0 ?_);refine iffx ?_
    (repeat refine ja0 ?_);refine rggx [1,10] ?_
    (repeat refine ja0 ?_);refine iffx ?_
    (repeat refine ja0 ?_);refine rggx [10] ?_
    (repeat refine ja0 ?_);refine iftx ?_
    (repeat refine ja0 ?_);refine rgx [2] ?_
    (repeat refine ja0 ?_);refine ja3 ?_;refine retx ?_;(try dsimp only [outV,ja4])
    exact ja2 rfl
  ·have gs:=dsF (b:=[106,111,105,110]) hs
   rw [vk5 ho rfl hs]
   have hX:=and_true;refine pcx Tryz.func103 rfl Tryz.ntmps103 Tryz.results103 rfl ?_;intro w0 A
   have hX:=And.intro hp (And.intro kc4 (gs))
   have hK:=And.intro (k1) trivial;(repeat refine ja0 ?_);refine rgx [1] ?_
   (repeat refine ja0 ?_);refine rgx [1,3] ?_
   (repeat refine ja0 ?_);refine ja5 ?_
   (repeat refine ja0 ?_);refine rgx [1,3,6] ?_
   (repeat refine ja0 ?_);refine iffx ?_
   (repeat refine ja0 ?_);refine rggx [1,10] ?_
   (repeat refine ja0 ?_);refine iffx ?_
   (repeat refine ja0 ?_);refine rggx [10] ?_
   (repeat refine ja0 ?_);refine iffx ?_
   (repeat refine ja0 ?_);refine ja1 ?_
   (repeat refine ja0 ?_);refine rgx [2] ?_
   (repeat refine ja0 ?_);refine ja3 ?_;refine retx ?_;(try dsimp only [outV,ja4])
   exact ja2 rfl
 ·rw [vc9 ho rfl]
  cases hb:ownB ⟨r,s,w,t,true,i,k,b,a⟩
  ·rw [hb] at k2
   have hX:=and_true;refine pcx Tryz.func103 rfl Tryz.ntmps103 Tryz.results103 rfl ?_;intro w0 A
   have hX:=And.intro hp (kc4)
   have hK:=And.intro (k1) (And.intro (k2) trivial);(repeat refine ja0 ?_);refine rgx [1] ?_
   (repeat refine ja0 ?_);refine rgx [1,3] ?_
   (repeat refine ja0 ?_);refine ja5 ?_
   (repeat refine ja0 ?_);refine rgx [1,3,6] ?_
   (repeat refine ja0 ?_);refine iffx ?_
   (repeat refine ja0 ?_);refine rggx [1,10] ?_
   (repeat refine ja0 ?_);refine iffx ?_
   (repeat refine ja0 ?_);refine rggx [10] ?_
   (repeat refine ja0 ?_);refine iffx ?_
   (repeat refine ja0 ?_);refine ja1 ?_
   (repeat refine ja0 ?_);refine rgx [2] ?_
   (repeat refine ja0 ?_);refine ja3 ?_;refine retx ?_;(try dsimp only [outV,ja4])
   exact ja2 rfl
  ·rw [hb] at k2
   have hX:=and_true;refine pcx Tryz.func103 rfl Tryz.ntmps103 Tryz.results103 rfl ?_;intro w0 A
   have hX:=And.intro hp (kc4)
   have hK:=And.intro (k1) (And.intro (k2) trivial);(repeat refine ja0 ?_);refine rgx [1] ?_
   (repeat refine ja0 ?_);refine rgx [1,3] ?_
   (repeat refine ja0 ?_);refine ja5 ?_
   (repeat refine ja0 ?_);refine rgx [1,3,6] ?_
   (repeat refine ja0 ?_);refine iffx ?_
   (repeat refine ja0 ?_);refine rggx [1,10] ?_
   (repeat refine ja0 ?_);refine iftx ?_
   (repeat refine ja0 ?_);refine ja1 ?_
   (repeat refine ja0 ?_);refine iftx ?_
   (repeat refine ja0 ?_);refine rgx [2] ?_
   (repeat refine ja0 ?_);refine ja3 ?_;refine retx ?_;(try dsimp only [outV,ja4])
   exact ja2 rfl
end Go.Proofs.YtegfnhibmhjdbaaGreatDoor
