/- The laws of auth, walked. -/
import Derived.Test.YtegfnhibmhjdbaaGreatDoorAPD
import Derived.Test.YtegfnhibmhjdbaaGreatDoorAUO
import Derived.Test.YtegfnhibmhjdbaaGreatDoorAUK
import Derived.Test.YtegfnhibmhjdbaaGreatDoorAQF
set_option linter.unusedSimpArgs false
set_option linter.unusedVariables false
set_option maxRecDepth 10000
namespace Go.Proofs.YtegfnhibmhjdbaaGreatDoor
open Go.RowKit
set_option maxHeartbeats 32000000 in
theorem kx9 (s:List Cl) (e:Ev) (t:List UInt8) (hs:ccB s) (he:evB e):PC (ja6 Tryz.prog) 3 [ccD s,evtD e,strD t] (bD true):=by
 have lv:=jz5
 by_cases c1:4096<t.length
 ·have d1:decide ((4096:Int)<(t.length:Int))=true:=decide_eq_true (by omega)
  have hX:=and_true;refine pcx Tryz.func3 rfl Tryz.ntmps3 Tryz.results3 rfl ?_;intro w0 A
  have hX:=And.intro jb6 (And.intro jb1 (And.intro jc8 (d1)))
  have hK:=And.intro (lv) trivial;(repeat refine ja0 ?_);refine rgx [0,2,4] ?_
  (repeat refine ja0 ?_);refine rgx [0,2,4,21] ?_
  (repeat refine ja0 ?_);refine iftx ?_
  (repeat refine ja0 ?_);refine rgx [6] ?_
  (repeat refine ja0 ?_);refine ja3 ?_;refine retx ?_;(try dsimp only [outV,ja4])
  exact ja2 rfl
 have d1:decide ((4096:Int)<(t.length:Int))=false:=decide_eq_false (by omega)
 have k1:=jy1 s hs
 have k2:=kn9 s hs
 have k3:=kj6 s hs
 have k4:=qd7 s hs
 have k5:=jt5 t (by omega)
 have k6:=kl6 t (by omega)
 have k7:=jh5 s e hs he
 have k8:=kh7 s e hs he
 have k9:=vm7 (levC s).1 (levC s).1 (qm1 s).2 (qm1 s).2
 rw [qu6] at k9
 unfold lvR at k1 k2
 unfold seD at k3 k4
 unfold cuD at k5 k6
 generalize (levC s).1=y at *
 generalize (levC s).2=w at *
 generalize (rulC s).1=r at *
 generalize (rulC s).2=v at *
 generalize (numO 63 t).1=n at *
 generalize (numO 63 t).2=b at *
 generalize alwE s e=x at *
 cases b
 ·have hX:=and_true;refine pcx Tryz.func3 rfl Tryz.ntmps3 Tryz.results3 rfl ?_;intro w0 A
  have hX:=And.intro jb6 (And.intro jb1 (And.intro jc8 (And.intro d1 (And.intro kg2 (qg8)))))
  (repeat refine ja0 ?_);refine ja8 [0,2,4] ?_;intro w0 A S0 f0;(repeat ((with_reducible show DR _ _ _ (_::_) _);first|(refine cx _ (envG _ _ _ _ _ _) rfl rfl rfl rfl rfl ?_ (hc:=by first|exact lv|exact k1|exact k2|exact k3|exact k4|exact k5|exact k6|exact k7|exact k8|exact k9))  | (refine sx ?_)));refine ja7 ?_;refine kl1 ?_
  (repeat refine ja0 ?_);refine ja8 [0,2,4,21] ?_;intro w0 A S0 f0;(repeat ((with_reducible show DR _ _ _ (_::_) _);first|(refine cx _ (envG _ _ _ _ _ _) rfl rfl rfl rfl rfl ?_ (hc:=by first|exact lv|exact k1|exact k2|exact k3|exact k4|exact k5|exact k6|exact k7|exact k8|exact k9))  | (refine sx ?_)));refine ja7 ?_;refine kl1 ?_
  (repeat refine ja0 ?_);refine iffx ?_
  (repeat refine ja0 ?_);refine ja1 ?_
  (repeat refine ja0 ?_);refine ja8 [0,2,4,7,8] ?_;intro w0 A S0 f0;(repeat ((with_reducible show DR _ _ _ (_::_) _);first|(refine cx _ (envG _ _ _ _ _ _) rfl rfl rfl rfl rfl ?_ (hc:=by first|exact lv|exact k1|exact k2|exact k3|exact k4|exact k5|exact k6|exact k7|exact k8|exact k9))  | (refine sx ?_)));refine ja7 ?_;refine kl1 ?_
  (repeat refine ja0 ?_);refine ja8 [0,2,4,7,8,9,10] ?_;intro w0 A S0 f0;(repeat ((with_reducible show DR _ _ _ (_::_) _);first|(refine cx _ (envG _ _ _ _ _ _) rfl rfl rfl rfl rfl ?_ (hc:=by first|exact lv|exact k1|exact k2|exact k3|exact k4|exact k5|exact k6|exact k7|exact k8|exact k9))  | (refine sx ?_)));refine ja7 ?_;refine kl1 ?_
  (repeat refine ja0 ?_);refine ja8 [0,2,4,7,8,9,10,11,12] ?_;intro w0 A S0 f0;(repeat ((with_reducible show DR _ _ _ (_::_) _);first|(refine cx _ (envG _ _ _ _ _ _) rfl rfl rfl rfl rfl ?_ (hc:=by first|exact lv|exact k1|exact k2|exact k3|exact k4|exact k5|exact k6|exact k7|exact k8|exact k9))  | (refine sx ?_)));refine ja7 ?_;refine kl1 ?_
  (repeat refine ja0 ?_);refine ja8 [0,2,4,7,8,9,10,11,12,13,14] ?_;intro w0 A S0 f0;(repeat ((with_reducible show DR _ _ _ (_::_) _);first|(refine cx _ (envG _ _ _ _ _ _) rfl rfl rfl rfl rfl ?_ (hc:=by first|exact lv|exact k1|exact k2|exact k3|exact k4|exact k5|exact k6|exact k7|exact k8|exact k9))  | (refine sx ?_)));refine ja7 ?_;refine kl1 ?_
  (repeat refine ja0 ?_);refine ja8 [0,2,4,7,8,9,10,11,12,13,14,15,16] ?_;intro w0 A S0 f0;(repeat ((with_reducible show DR _ _ _ (_::_) _);first|(refine cx _ (envG _ _ _ _ _ _) rfl rfl rfl rfl rfl ?_ (hc:=by first|exact lv|exact k1|exact k2|exact k3|exact k4|exact k5|exact k6|exact k7|exact k8|exact k9))  | (refine sx ?_)));refine ja7 ?_;refine kl1 ?_
  (repeat refine ja0 ?_);refine ja8 [0,4,7,8,9,10,11,12,13,14,15,16,17,18] ?_;intro w0 A S0 f0;(repeat ((with_reducible show DR _ _ _ (_::_) _);first|(refine cx _ (envG _ _ _ _ _ _) rfl rfl rfl rfl rfl ?_ (hc:=by first|exact lv|exact k1|exact k2|exact k3|exact k4|exact k5|exact k6|exact k7|exact k8|exact k9))  | (refine sx ?_)));refine ja7 ?_;refine kl1 ?_
  (repeat refine ja0 ?_);refine jd6 [6] (by kernel_rfl) ?_;intro w0 A S0 f0;(repeat (first|(refine gtxq rfl rfl ?_)|(refine gxq ?_)|((with_reducible show DRq _ _ _ (_::_) _);first|(refine cxq _ (envG _ _ _ _ _ _) rfl rfl rfl rfl rfl ?_ (hc:=by first|exact lv|exact k1|exact k2|exact k3|exact k4|exact k5|exact k6|exact k7|exact k8|exact k9))|(refine sxq ?_))));refine jc9 ?_;refine kl1 ?_
  (repeat refine ja0 ?_);refine ja3 ?_;refine retx ?_;(try dsimp only [outV,ja4])
  exact ja2 rfl
 ·have hX:=and_true;refine pcx Tryz.func3 rfl Tryz.ntmps3 Tryz.results3 rfl ?_;intro w0 A
  have hX:=And.intro jb6 (And.intro jb1 (And.intro jc8 (And.intro d1 (And.intro kg2 (qg8)))))
  (repeat refine ja0 ?_);refine ja8 [0,2,4] ?_;intro w0 A S0 f0;(repeat ((with_reducible show DR _ _ _ (_::_) _);first|(refine cx _ (envG _ _ _ _ _ _) rfl rfl rfl rfl rfl ?_ (hc:=by first|exact lv|exact k1|exact k2|exact k3|exact k4|exact k5|exact k6|exact k7|exact k8|exact k9))  | (refine sx ?_)));refine ja7 ?_;refine kl1 ?_
  (repeat refine ja0 ?_);refine ja8 [0,2,4,21] ?_;intro w0 A S0 f0;(repeat ((with_reducible show DR _ _ _ (_::_) _);first|(refine cx _ (envG _ _ _ _ _ _) rfl rfl rfl rfl rfl ?_ (hc:=by first|exact lv|exact k1|exact k2|exact k3|exact k4|exact k5|exact k6|exact k7|exact k8|exact k9))  | (refine sx ?_)));refine ja7 ?_;refine kl1 ?_
  (repeat refine ja0 ?_);refine iffx ?_
  (repeat refine ja0 ?_);refine ja1 ?_
  (repeat refine ja0 ?_);refine ja8 [0,2,4,7,8] ?_;intro w0 A S0 f0;(repeat ((with_reducible show DR _ _ _ (_::_) _);first|(refine cx _ (envG _ _ _ _ _ _) rfl rfl rfl rfl rfl ?_ (hc:=by first|exact lv|exact k1|exact k2|exact k3|exact k4|exact k5|exact k6|exact k7|exact k8|exact k9))  | (refine sx ?_)));refine ja7 ?_;refine kl1 ?_
  (repeat refine ja0 ?_);refine ja8 [0,2,4,7,8,9,10] ?_;intro w0 A S0 f0;(repeat ((with_reducible show DR _ _ _ (_::_) _);first|(refine cx _ (envG _ _ _ _ _ _) rfl rfl rfl rfl rfl ?_ (hc:=by first|exact lv|exact k1|exact k2|exact k3|exact k4|exact k5|exact k6|exact k7|exact k8|exact k9))  | (refine sx ?_)));refine ja7 ?_;refine kl1 ?_
  (repeat refine ja0 ?_);refine ja8 [0,2,4,7,8,9,10,11,12] ?_;intro w0 A S0 f0;(repeat ((with_reducible show DR _ _ _ (_::_) _);first|(refine cx _ (envG _ _ _ _ _ _) rfl rfl rfl rfl rfl ?_ (hc:=by first|exact lv|exact k1|exact k2|exact k3|exact k4|exact k5|exact k6|exact k7|exact k8|exact k9))  | (refine sx ?_)));refine ja7 ?_;refine kl1 ?_
  (repeat refine ja0 ?_);refine ja8 [0,2,4,7,8,9,10,11,12,13,14] ?_;intro w0 A S0 f0;(repeat ((with_reducible show DR _ _ _ (_::_) _);first|(refine cx _ (envG _ _ _ _ _ _) rfl rfl rfl rfl rfl ?_ (hc:=by first|exact lv|exact k1|exact k2|exact k3|exact k4|exact k5|exact k6|exact k7|exact k8|exact k9))  | (refine sx ?_)));refine ja7 ?_;refine kl1 ?_
  (repeat refine ja0 ?_);refine ja8 [0,2,4,7,8,9,10,11,12,13,14,15,16] ?_;intro w0 A S0 f0;(repeat ((with_reducible show DR _ _ _ (_::_) _);first|(refine cx _ (envG _ _ _ _ _ _) rfl rfl rfl rfl rfl ?_ (hc:=by first|exact lv|exact k1|exact k2|exact k3|exact k4|exact k5|exact k6|exact k7|exact k8|exact k9))  | (refine sx ?_)));refine ja7 ?_;refine kl1 ?_
  (repeat refine ja0 ?_);refine ja8 [0,4,7,8,9,10,11,12,13,14,15,16,17,18] ?_;intro w0 A S0 f0;(repeat ((with_reducible show DR _ _ _ (_::_) _);first|(refine cx _ (envG _ _ _ _ _ _) rfl rfl rfl rfl rfl ?_ (hc:=by first|exact lv|exact k1|exact k2|exact k3|exact k4|exact k5|exact k6|exact k7|exact k8|exact k9))  | (refine sx ?_)));refine ja7 ?_;refine kl1 ?_
  (repeat refine ja0 ?_);refine jd6 [6] (by kernel_rfl) ?_;intro w0 A S0 f0;(repeat (first|(refine gtxq rfl rfl ?_)|(refine gxq ?_)|((with_reducible show DRq _ _ _ (_::_) _);first|(refine cxq _ (envG _ _ _ _ _ _) rfl rfl rfl rfl rfl ?_ (hc:=by first|exact lv|exact k1|exact k2|exact k3|exact k4|exact k5|exact k6|exact k7|exact k8|exact k9))|(refine sxq ?_))));refine jc9 ?_;refine kl1 ?_
  (repeat refine ja0 ?_);refine ja3 ?_;refine retx ?_;(try dsimp only [outV,ja4])
  exact ja2 rfl
end Go.Proofs.YtegfnhibmhjdbaaGreatDoor
