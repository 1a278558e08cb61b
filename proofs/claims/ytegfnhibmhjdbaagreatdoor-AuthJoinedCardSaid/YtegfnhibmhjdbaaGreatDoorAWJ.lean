/- The laws of auth, walked: who has not joined. -/
import Derived.Test.YtegfnhibmhjdbaaGreatDoorAPD
import Derived.Test.YtegfnhibmhjdbaaGreatDoorAUO
import Derived.Test.YtegfnhibmhjdbaaGreatDoorAUF
set_option linter.unusedSimpArgs false
set_option linter.unusedVariables false
set_option maxRecDepth 10000
namespace Go.Proofs.YtegfnhibmhjdbaaGreatDoor
open Go.RowKit
set_option maxHeartbeats 32000000 in
theorem kr3 (s:List Cl) (e:Ev) (hs:ccB s) (he:evB e):PC (ja6 Tryz.prog) 4 [ccD s,evtD e] (bD true):=by
 have lv:=jz5
 have k1:=jh5 s e hs he
 by_cases h0:alwE s e=0
 ·have hJ:=qg0 h0
  have hc:=(jn1 h0).1
  have hn:s.length≤140737488351232:=by have:=(jg6 hc).1;omega
  rw [h0] at k1
  rcases hJ with ⟨h1,h2⟩|⟨h1,h2,h3⟩
  ·have d1:decide ((e.k:Int)=1)=true:=decide_eq_true (by omega)
   have d2:decide ((s.length:Int)=0)=true:=decide_eq_true (by omega)
   have hX:=and_true;refine pcx Tryz.func4 rfl Tryz.ntmps4 Tryz.results4 rfl ?_;intro w0 A
   have hX:=And.intro jb6 (And.intro jb1 (And.intro ja9 (And.intro jd3 (And.intro d1 (d2)))))
   have hK:=And.intro (lv) (And.intro (k1) trivial);(repeat refine ja0 ?_);refine rgx [0,3] ?_
   (repeat refine ja0 ?_);refine rgx [0,3,8] ?_
   (repeat refine ja0 ?_);refine iffx ?_
   (repeat refine ja0 ?_);refine ja1 ?_
   (repeat refine ja0 ?_);refine rgx [0,3,12] ?_
   (repeat refine ja0 ?_);refine iffx ?_
   (repeat refine ja0 ?_);refine ja1 ?_
   (repeat refine ja0 ?_);refine rgx [0,3,15] ?_
   (repeat refine ja0 ?_);refine iftx ?_
   (repeat refine ja0 ?_);refine rgx [4] ?_
   (repeat refine ja0 ?_);refine ja3 ?_;refine retx ?_;(try dsimp only [outV,ja4])
   exact ja2 rfl
  have d1:decide ((e.k:Int)=1)=false:=decide_eq_false (by omega)
  have kg:=jz9 s 1 [] hs
  have km:=ka1 s e.s hn
  unfold eeD at kg
  rw [h2] at kg
  generalize (getC s 1 []).1=g at *
  have kg:PC (ja6 Tryz.prog) 21 [ccD s,.v (.int .u8 1),.v (.string (B []))] (.tup (.cons (evtD g) (.cons (.v (.int .i64 0)) .nil))):=kg
  generalize memC s e.s=m at *
  by_cases hj:m=joT
  ·have gj:=dsT (b:=[106,111,105,110]) hj
   have hX:=and_true;refine pcx Tryz.func4 rfl Tryz.ntmps4 Tryz.results4 rfl ?_;intro w0 A
   have hX:=And.intro jb6 (And.intro jb1 (And.intro ja9 (And.intro d1 (gj))))
   have hK:=And.intro (lv) (And.intro (k1) (And.intro (kg) (And.intro (km) trivial)));(repeat refine ja0 ?_);refine rgx [0,3] ?_
   (repeat refine ja0 ?_);refine rgx [0,3,8] ?_
   (repeat refine ja0 ?_);refine iffx ?_
   (repeat refine ja0 ?_);refine ja1 ?_
   (repeat refine ja0 ?_);refine rgx [0,3,12] ?_
   (repeat refine ja0 ?_);refine iffx ?_
   (repeat refine ja0 ?_);refine ja1 ?_
   (repeat refine ja0 ?_);refine rgx [0,3,15] ?_
   (repeat refine ja0 ?_);refine iffx ?_
   (repeat refine ja0 ?_);refine ja1 ?_
   (repeat refine ja0 ?_);refine rgx [0,3,6] ?_
   (repeat refine ja0 ?_);refine rgx [0,3,25] ?_
   (repeat refine ja0 ?_);refine iffx ?_
   (repeat refine ja0 ?_);refine ja1 ?_
   (repeat refine ja0 ?_);refine rgx [3,30] ?_
   (repeat refine ja0 ?_);refine iftx ?_
   (repeat refine ja0 ?_);refine rgx [4] ?_
   (repeat refine ja0 ?_);refine ja3 ?_;refine retx ?_;(try dsimp only [outV,ja4])
   exact ja2 rfl
  have gj:=dsF (b:=[106,111,105,110]) hj
  obtain ⟨h4,h5,h6⟩:=h3.resolve_left hj
  have d2:decide ((e.k:Int)=2)=true:=decide_eq_true (by omega)
  have gs:=dsT h5
  by_cases b1:e.b=joT
  ·have g1:=dsT (b:=[106,111,105,110]) b1
   have hX:=and_true;refine pcx Tryz.func4 rfl Tryz.ntmps4 Tryz.results4 rfl ?_;intro w0 A
   have hX:=And.intro jb6 (And.intro jb1 (And.intro ja9 (And.intro d1 (And.intro d2 (And.intro gj (And.intro gs (g1)))))))
   have hK:=And.intro (lv) (And.intro (k1) (And.intro (kg) (And.intro (km) trivial)));(repeat refine ja0 ?_);refine rgx [0,3] ?_
   (repeat refine ja0 ?_);refine rgx [0,3,8] ?_
   (repeat refine ja0 ?_);refine iffx ?_
   (repeat refine ja0 ?_);refine ja1 ?_
   (repeat refine ja0 ?_);refine rgx [0,3,12] ?_
   (repeat refine ja0 ?_);refine iffx ?_
   (repeat refine ja0 ?_);refine ja1 ?_
   (repeat refine ja0 ?_);refine rgx [0,3,15] ?_
   (repeat refine ja0 ?_);refine iffx ?_
   (repeat refine ja0 ?_);refine ja1 ?_
   (repeat refine ja0 ?_);refine rgx [0,3,6] ?_
   (repeat refine ja0 ?_);refine rgx [0,3,25] ?_
   (repeat refine ja0 ?_);refine iffx ?_
   (repeat refine ja0 ?_);refine ja1 ?_
   (repeat refine ja0 ?_);refine rgx [3,30] ?_
   (repeat refine ja0 ?_);refine iffx ?_
   (repeat refine ja0 ?_);refine ja1 ?_
   (repeat refine ja0 ?_);refine rggx [4] ?_
   (repeat refine ja0 ?_);refine ja3 ?_;refine retx ?_;(try dsimp only [outV,ja4])
   exact ja2 rfl
  have g1:=dsF (b:=[106,111,105,110]) b1
  by_cases b2:e.b=knT
  ·have g2:=dsT (b:=[107,110,111,99,107]) b2
   have hX:=and_true;refine pcx Tryz.func4 rfl Tryz.ntmps4 Tryz.results4 rfl ?_;intro w0 A
   have hX:=And.intro jb6 (And.intro jb1 (And.intro ja9 (And.intro d1 (And.intro d2 (And.intro gj (And.intro gs (And.intro g1 (g2))))))))
   have hK:=And.intro (lv) (And.intro (k1) (And.intro (kg) (And.intro (km) trivial)));(repeat refine ja0 ?_);refine rgx [0,3] ?_
   (repeat refine ja0 ?_);refine rgx [0,3,8] ?_
   (repeat refine ja0 ?_);refine iffx ?_
   (repeat refine ja0 ?_);refine ja1 ?_
   (repeat refine ja0 ?_);refine rgx [0,3,12] ?_
   (repeat refine ja0 ?_);refine iffx ?_
   (repeat refine ja0 ?_);refine ja1 ?_
   (repeat refine ja0 ?_);refine rgx [0,3,15] ?_
   (repeat refine ja0 ?_);refine iffx ?_
   (repeat refine ja0 ?_);refine ja1 ?_
   (repeat refine ja0 ?_);refine rgx [0,3,6] ?_
   (repeat refine ja0 ?_);refine rgx [0,3,25] ?_
   (repeat refine ja0 ?_);refine iffx ?_
   (repeat refine ja0 ?_);refine ja1 ?_
   (repeat refine ja0 ?_);refine rgx [3,30] ?_
   (repeat refine ja0 ?_);refine iffx ?_
   (repeat refine ja0 ?_);refine ja1 ?_
   (repeat refine ja0 ?_);refine rggx [4] ?_
   (repeat refine ja0 ?_);refine ja3 ?_;refine retx ?_;(try dsimp only [outV,ja4])
   exact ja2 rfl
  have g2:=dsF (b:=[107,110,111,99,107]) b2
  have g3:=dsT (b:=[108,101,97,118,101]) ((h6.resolve_left b1).resolve_left b2)
  have hX:=and_true;refine pcx Tryz.func4 rfl Tryz.ntmps4 Tryz.results4 rfl ?_;intro w0 A
  have hX:=And.intro jb6 (And.intro jb1 (And.intro ja9 (And.intro d1 (And.intro d2 (And.intro gj (And.intro gs (And.intro g1 (And.intro g2 (g3)))))))))
  have hK:=And.intro (lv) (And.intro (k1) (And.intro (kg) (And.intro (km) trivial)));(repeat refine ja0 ?_);refine rgx [0,3] ?_
  (repeat refine ja0 ?_);refine rgx [0,3,8] ?_
  (repeat refine ja0 ?_);refine iffx ?_
  (repeat refine ja0 ?_);refine ja1 ?_
  (repeat refine ja0 ?_);refine rgx [0,3,12] ?_
  (repeat refine ja0 ?_);refine iffx ?_
  (repeat refine ja0 ?_);refine ja1 ?_
  (repeat refine ja0 ?_);refine rgx [0,3,15] ?_
  (repeat refine ja0 ?_);refine iffx ?_
  (repeat refine ja0 ?_);refine ja1 ?_
  (repeat refine ja0 ?_);refine rgx [0,3,6] ?_
  (repeat refine ja0 ?_);refine rgx [0,3,25] ?_
  (repeat refine ja0 ?_);refine iffx ?_
  (repeat refine ja0 ?_);refine ja1 ?_
  (repeat refine ja0 ?_);refine rgx [3,30] ?_
  (repeat refine ja0 ?_);refine iffx ?_
  (repeat refine ja0 ?_);refine ja1 ?_
  (repeat refine ja0 ?_);refine rggx [4] ?_
  (repeat refine ja0 ?_);refine ja3 ?_;refine retx ?_;(try dsimp only [outV,ja4])
  exact ja2 rfl
 ·have d0:decide (alwE s e=0)=false:=decide_eq_false h0
  generalize alwE s e=x at *
  have hX:=and_true;refine pcx Tryz.func4 rfl Tryz.ntmps4 Tryz.results4 rfl ?_;intro w0 A
  have hX:=And.intro jb6 (And.intro jb1 (d0))
  have hK:=And.intro (lv) (And.intro (k1) trivial);(repeat refine ja0 ?_);refine rgx [0,3] ?_
  (repeat refine ja0 ?_);refine rgx [0,3,8] ?_
  (repeat refine ja0 ?_);refine iffx ?_
  (repeat refine ja0 ?_);refine ja1 ?_
  (repeat refine ja0 ?_);refine rgx [0,3,12] ?_
  (repeat refine ja0 ?_);refine iftx ?_
  (repeat refine ja0 ?_);refine rgx [4] ?_
  (repeat refine ja0 ?_);refine ja3 ?_;refine retx ?_;(try dsimp only [outV,ja4])
  exact ja2 rfl
end Go.Proofs.YtegfnhibmhjdbaaGreatDoor
