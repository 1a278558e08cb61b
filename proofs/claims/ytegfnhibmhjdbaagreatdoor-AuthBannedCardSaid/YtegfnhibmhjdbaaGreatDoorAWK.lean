/- The laws of auth, walked: who is banned. -/
import Derived.Test.YtegfnhibmhjdbaaGreatDoorAPD
import Derived.Test.YtegfnhibmhjdbaaGreatDoorAUO
import Derived.Test.YtegfnhibmhjdbaaGreatDoorAUF
set_option linter.unusedSimpArgs false
set_option linter.unusedVariables false
set_option maxRecDepth 10000
namespace Go.Proofs.YtegfnhibmhjdbaaGreatDoor
open Go.RowKit
set_option maxHeartbeats 16000000 in
theorem kr2 (s:List Cl) (e:Ev) (hs:ccB s) (he:evB e) (hn:s.length≤140737488351232):PC (ja6 Tryz.prog) 5 [ccD s,evtD e] (bD true):=by
 have lv:=jz5
 have k1:=jh5 s e hs he
 have km:PC (ja6 Tryz.prog) 22 [ccD s,.v (.string (B e.s))] (strD (memC s e.s)):=ka1 s e.s hn
 by_cases hb:memC s e.s=baT
 ·have gb:=dsT (b:=[98,97,110]) hb
  by_cases h2:s.length<2
  ·have d2:decide ((s.length:Int)<2)=true:=decide_eq_true (by omega)
   generalize memC s e.s=m at *
   have hX:=and_true;refine pcx Tryz.func5 rfl Tryz.ntmps5 Tryz.results5 rfl ?_;intro w0 A
   have hX:=And.intro jb6 (And.intro jb1 (And.intro ja9 (And.intro jd3 (And.intro gb (d2)))))
   have hK:=And.intro (lv) (And.intro (km) trivial);(repeat refine ja0 ?_);refine rgx [0,3] ?_
   (repeat refine ja0 ?_);refine rgx [0,3,6] ?_
   (repeat refine ja0 ?_);refine iffx ?_
   (repeat refine ja0 ?_);refine ja1 ?_
   (repeat refine ja0 ?_);refine rggx [4] ?_
   (repeat refine ja0 ?_);refine ja3 ?_;refine retx ?_;(try dsimp only [outV,ja4])
   exact ja2 rfl
  ·have d2:decide ((s.length:Int)<2)=false:=decide_eq_false (by omega)
   have h0:=qf9 hb (by omega)
   have d0:decide (alwE s e=0)=false:=decide_eq_false h0
   generalize memC s e.s=m at *
   generalize alwE s e=x at *
   have k1:PC (ja6 Tryz.prog) 18 [ccD s,evtD e] (iD x):=k1
   have hX:=and_true;refine pcx Tryz.func5 rfl Tryz.ntmps5 Tryz.results5 rfl ?_;intro w0 A
   have hX:=And.intro jb6 (And.intro jb1 (And.intro ja9 (And.intro jd3 (And.intro gb (And.intro d2 (d0))))))
   have hK:=And.intro (lv) (And.intro (km) (And.intro (k1) trivial));(repeat refine ja0 ?_);refine rgx [0,3] ?_
   (repeat refine ja0 ?_);refine rgx [0,3,6] ?_
   (repeat refine ja0 ?_);refine iffx ?_
   (repeat refine ja0 ?_);refine ja1 ?_
   (repeat refine ja0 ?_);refine rggx [4] ?_
   (repeat refine ja0 ?_);refine ja3 ?_;refine retx ?_;(try dsimp only [outV,ja4])
   exact ja2 rfl
 ·have gb:=dsF (b:=[98,97,110]) hb
  generalize memC s e.s=m at *
  have hX:=and_true;refine pcx Tryz.func5 rfl Tryz.ntmps5 Tryz.results5 rfl ?_;intro w0 A
  have hX:=And.intro jb6 (And.intro jb1 (And.intro ja9 (gb)))
  have hK:=And.intro (lv) (And.intro (km) trivial);(repeat refine ja0 ?_);refine rgx [0,3] ?_
  (repeat refine ja0 ?_);refine rgx [0,3,6] ?_
  (repeat refine ja0 ?_);refine iffx ?_
  (repeat refine ja0 ?_);refine ja1 ?_
  (repeat refine ja0 ?_);refine rggx [4] ?_
  (repeat refine ja0 ?_);refine ja3 ?_;refine retx ?_;(try dsimp only [outV,ja4])
  exact ja2 rfl
end Go.Proofs.YtegfnhibmhjdbaaGreatDoor
