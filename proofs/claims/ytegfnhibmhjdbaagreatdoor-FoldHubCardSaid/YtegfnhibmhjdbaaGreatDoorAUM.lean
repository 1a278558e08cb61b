/- Moves: right or not; one's own, others'; whether they may be (package member). (Written by gen_ud.py.) -/
import Derived.Test.YtegfnhibmhjdbaaGreatDoorAPD
import Derived.Test.YtegfnhibmhjdbaaGreatDoorAUA
set_option linter.unusedSimpArgs false
set_option linter.unusedVariables false
set_option maxRecDepth 10000
namespace Go.Proofs.YtegfnhibmhjdbaaGreatDoor
open Go.RowKit
set_option maxHeartbeats 8000000 in
theorem vd0 (m:Mv):PC (ja6 Tryz.prog) 136 [mvD m] (iD (mvC m)):=by
 have k1:=kw3 m.r
 have k2:=kp2 m.s
 have k3:=kp2 m.w
 have k4:=kp2 m.t
 unfold mvC mvOk
 generalize rulM m.r=b1 at *
 generalize isM m.s=b2 at *
 generalize isM m.w=b3 at *
 generalize isM m.t=b4 at *
 cases b1
 ·have hX:=and_true;refine pcx Tryz.func136 rfl Tryz.ntmps136 Tryz.results136 rfl ?_;intro w0 A
  have hX:=And.intro jb5 (and_true)
  have hK:=And.intro (k1) (And.intro (k2) (And.intro (k3) (And.intro (k4) trivial)));(repeat refine ja0 ?_);refine rgx [1] ?_
  (repeat refine ja0 ?_);refine rggx [24] ?_
  (repeat refine ja0 ?_);refine iftx ?_
  (repeat refine ja0 ?_);refine rgx [2] ?_
  (repeat refine ja0 ?_);refine ja3 ?_;refine retx ?_;(try dsimp only [outV,ja4])
  exact ja2 rfl
 cases b2
 ·have hX:=and_true;refine pcx Tryz.func136 rfl Tryz.ntmps136 Tryz.results136 rfl ?_;intro w0 A
  have hX:=And.intro jb5 (and_true)
  have hK:=And.intro (k1) (And.intro (k2) (And.intro (k3) (And.intro (k4) trivial)));(repeat refine ja0 ?_);refine rgx [1] ?_
  (repeat refine ja0 ?_);refine rggx [24] ?_
  (repeat refine ja0 ?_);refine iftx ?_
  (repeat refine ja0 ?_);refine rgx [2] ?_
  (repeat refine ja0 ?_);refine ja3 ?_;refine retx ?_;(try dsimp only [outV,ja4])
  exact ja2 rfl
 cases b3
 ·have hX:=and_true;refine pcx Tryz.func136 rfl Tryz.ntmps136 Tryz.results136 rfl ?_;intro w0 A
  have hX:=And.intro jb5 (and_true)
  have hK:=And.intro (k1) (And.intro (k2) (And.intro (k3) (And.intro (k4) trivial)));(repeat refine ja0 ?_);refine rgx [1] ?_
  (repeat refine ja0 ?_);refine rggx [24] ?_
  (repeat refine ja0 ?_);refine iftx ?_
  (repeat refine ja0 ?_);refine rgx [2] ?_
  (repeat refine ja0 ?_);refine ja3 ?_;refine retx ?_;(try dsimp only [outV,ja4])
  exact ja2 rfl
 cases b4
 ·have hX:=and_true;refine pcx Tryz.func136 rfl Tryz.ntmps136 Tryz.results136 rfl ?_;intro w0 A
  have hX:=And.intro jb5 (and_true)
  have hK:=And.intro (k1) (And.intro (k2) (And.intro (k3) (And.intro (k4) trivial)));(repeat refine ja0 ?_);refine rgx [1] ?_
  (repeat refine ja0 ?_);refine rggx [24] ?_
  (repeat refine ja0 ?_);refine iftx ?_
  (repeat refine ja0 ?_);refine rgx [2] ?_
  (repeat refine ja0 ?_);refine ja3 ?_;refine retx ?_;(try dsimp only [outV,ja4])
  exact ja2 rfl
 ·have hX:=and_true;refine pcx Tryz.func136 rfl Tryz.ntmps136 Tryz.results136 rfl ?_;intro w0 A
  have hX:=And.intro jb5 (and_true)
  have hK:=And.intro (k1) (And.intro (k2) (And.intro (k3) (And.intro (k4) trivial)));(repeat refine ja0 ?_);refine rgx [1] ?_
  (repeat refine ja0 ?_);refine rggx [24] ?_
  (repeat refine ja0 ?_);refine iffx ?_
  (repeat refine ja0 ?_);refine ja1 ?_
  (repeat refine ja0 ?_);refine rgx [2] ?_
  (repeat refine ja0 ?_);refine ja3 ?_;refine retx ?_;(try dsimp only [outV,ja4])
  exact ja2 rfl
set_option maxHeartbeats 8000000 in
theorem jn5 (m:Mv):PC (ja6 Tryz.prog) 141 [mvD m] (iD (mvC m)):=by
 have k1:=kl8 m.r
 have k2:=ki1 m.s
 have k3:=ki1 m.w
 have k4:=ki1 m.t
 unfold mvC mvOk
 generalize rulM m.r=b1 at *
 generalize isM m.s=b2 at *
 generalize isM m.w=b3 at *
 generalize isM m.t=b4 at *
 cases b1
 ·have hX:=and_true;refine pcx Tryz.func141 rfl Tryz.ntmps141 Tryz.results141 rfl ?_;intro w0 A
  have hX:=And.intro jb5 (and_true)
  have hK:=And.intro (k1) (And.intro (k2) (And.intro (k3) (And.intro (k4) trivial)));(repeat refine ja0 ?_);refine rgx [1] ?_
  (repeat refine ja0 ?_);refine rggx [24] ?_
  (repeat refine ja0 ?_);refine iftx ?_
  (repeat refine ja0 ?_);refine rgx [2] ?_
  (repeat refine ja0 ?_);refine ja3 ?_;refine retx ?_;(try dsimp only [outV,ja4])
  exact ja2 rfl
 cases b2
 ·have hX:=and_true;refine pcx Tryz.func141 rfl Tryz.ntmps141 Tryz.results141 rfl ?_;intro w0 A
  have hX:=And.intro jb5 (and_true)
  have hK:=And.intro (k1) (And.intro (k2) (And.intro (k3) (And.intro (k4) trivial)));(repeat refine ja0 ?_);refine rgx [1] ?_
  (repeat refine ja0 ?_);refine rggx [24] ?_
  (repeat refine ja0 ?_);refine iftx ?_
  (repeat refine ja0 ?_);refine rgx [2] ?_
  (repeat refine ja0 ?_);refine ja3 ?_;refine retx ?_;(try dsimp only [outV,ja4])
  exact ja2 rfl
 cases b3
 ·have hX:=and_true;refine pcx Tryz.func141 rfl Tryz.ntmps141 Tryz.results141 rfl ?_;intro w0 A
  have hX:=And.intro jb5 (and_true)
  have hK:=And.intro (k1) (And.intro (k2) (And.intro (k3) (And.intro (k4) trivial)));(repeat refine ja0 ?_);refine rgx [1] ?_
  (repeat refine ja0 ?_);refine rggx [24] ?_
  (repeat refine ja0 ?_);refine iftx ?_
  (repeat refine ja0 ?_);refine rgx [2] ?_
  (repeat refine ja0 ?_);refine ja3 ?_;refine retx ?_;(try dsimp only [outV,ja4])
  exact ja2 rfl
 cases b4
 ·have hX:=and_true;refine pcx Tryz.func141 rfl Tryz.ntmps141 Tryz.results141 rfl ?_;intro w0 A
  have hX:=And.intro jb5 (and_true)
  have hK:=And.intro (k1) (And.intro (k2) (And.intro (k3) (And.intro (k4) trivial)));(repeat refine ja0 ?_);refine rgx [1] ?_
  (repeat refine ja0 ?_);refine rggx [24] ?_
  (repeat refine ja0 ?_);refine iftx ?_
  (repeat refine ja0 ?_);refine rgx [2] ?_
  (repeat refine ja0 ?_);refine ja3 ?_;refine retx ?_;(try dsimp only [outV,ja4])
  exact ja2 rfl
 ·have hX:=and_true;refine pcx Tryz.func141 rfl Tryz.ntmps141 Tryz.results141 rfl ?_;intro w0 A
  have hX:=And.intro jb5 (and_true)
  have hK:=And.intro (k1) (And.intro (k2) (And.intro (k3) (And.intro (k4) trivial)));(repeat refine ja0 ?_);refine rgx [1] ?_
  (repeat refine ja0 ?_);refine rggx [24] ?_
  (repeat refine ja0 ?_);refine iffx ?_
  (repeat refine ja0 ?_);refine ja1 ?_
  (repeat refine ja0 ?_);refine rgx [2] ?_
  (repeat refine ja0 ?_);refine ja3 ?_;refine retx ?_;(try dsimp only [outV,ja4])
  exact ja2 rfl
end Go.Proofs.YtegfnhibmhjdbaaGreatDoor
