/- Scripts: the law of texts. -/
import Derived.Test.YtlhdeplkmghniaaDoorSPD
import Derived.Test.YtlhdeplkmghniaaDoorSYM
import Derived.Test.YtlhdeplkmghniaaDoorSYD
import Derived.Test.YtlhdeplkmghniaaDoorSYJ
set_option linter.unusedSimpArgs false
set_option linter.unusedVariables false
set_option maxRecDepth 10000
namespace Go.Proofs.YtlhdeplkmghniaaDoor
open Go.RowKit
set_option maxHeartbeats 32000000 in
theorem kh5 (c:Su) (l:List Dd) (t:List UInt8) (h:((200<l.length∧l.length≤4096)∨32768<t.length)):PC (ja4 Tryd.prog) 4 [sepD c,.sl l ddz ddD,strD t] (bD true):=by
 have lv:=jo0
 rw [jc6]
 by_cases c1:200<l.length
 ·have d1:decide ((200:Int)<(l.length:Int))=true:=decide_eq_true (by omega)
  by_cases c2:l.length≤4096
  ·have d2:decide ((l.length:Int)≤(4096:Int))=true:=decide_eq_true (by omega)
   have hX:=and_true;refine pcx Tryd.func4 rfl Tryd.ntmps4 Tryd.results4 rfl ?_;intro w0 A
   have hX:=And.intro d1 (And.intro d2 (and_true))
   have hK:=And.intro (lv) trivial;refine rgx [1,2,3] ?_
   refine rggx [1,2,3,31] ?_
   refine iftx ?_
   refine rgx [6] ?_
   exact retF
  have d2:decide ((l.length:Int)≤(4096:Int))=false:=decide_eq_false (by omega)
  have d3:decide ((32768:Int)<(t.length:Int))=true:=decide_eq_true (by omega)
  have hX:=and_true;refine pcx Tryd.func4 rfl Tryd.ntmps4 Tryd.results4 rfl ?_;intro w0 A
  have hX:=And.intro d1 (And.intro d2 (And.intro d3 (and_true)))
  have hK:=And.intro (lv) trivial;refine rgx [1,2,3] ?_
  refine rggx [1,2,3,31] ?_
  refine iftx ?_
  refine rgx [6] ?_
  exact retF
 have d1:decide ((200:Int)<(l.length:Int))=false:=decide_eq_false (by omega)
 have d3:decide ((32768:Int)<(t.length:Int))=true:=decide_eq_true (by omega)
 have hX:=and_true;refine pcx Tryd.func4 rfl Tryd.ntmps4 Tryd.results4 rfl ?_;intro w0 A
 have hX:=And.intro d1 (And.intro d3 (and_true))
 have hK:=And.intro (lv) trivial;refine rgx [1,2,3] ?_
 refine rggx [1,2,3,31] ?_
 refine iftx ?_
 refine rgx [6] ?_
 exact retF
set_option maxHeartbeats 32000000 in
theorem kh4 (c:Su) (l:List Dd) (t:List UInt8) (hc:sepB c) (hl:∀d ∈ l,ddB d):PC (ja4 Tryd.prog) 4 [sepD c,.sl l ddz ddD,strD t] (bD true):=by
 by_cases hq:((200<l.length∧l.length≤4096)∨32768<t.length)
 ·exact kh5 c l t hq
 have lv:=jo0
 have d3:decide ((32768:Int)<(t.length:Int))=false:=decide_eq_false (by omega)
 have k1:=kb2 c l hc hl
 have k2:=ve1 c l hc hl
 have k3:=js6 t (by omega)
 have k4:=qn7 t (by omega)
 obtain ⟨r,hr,k5⟩:=ke3 (getO t).2.1 (getO t).2.1 (by have:=qu2 t;omega)
 obtain rfl:r=true:=hr.2 rfl
 unfold seS at k1 k2
 unfold sgD at k3 k4
 clear hr hl
 generalize (getO t).1=y at *
 generalize (getO t).2.1=L at *
 generalize (getO t).2.2.1=n at *
 generalize (getO t).2.2.2=e at *
 generalize (putO c l).1=s at *
 generalize (putO c l).2=e2 at *
 rw [jc6] at k1 k2 k3 k4
 rw [jc6]
 by_cases c1:200<l.length
 ·have d1:decide ((200:Int)<(l.length:Int))=true:=decide_eq_true (by omega)
  have d2:decide ((l.length:Int)≤(4096:Int))=false:=decide_eq_false (by omega)
  have hX:=and_true;refine pcx Tryd.func4 rfl Tryd.ntmps4 Tryd.results4 rfl ?_;intro w0 A
  have hX:=And.intro d1 (And.intro d2 (And.intro d3 (And.intro dcIj (And.intro dcSj (Bool.and_self)))))
  refine regX [1,2,3] ?_;intro w0 A S0 f0;(repeat ((with_reducible show DR _ _ _ (_::_) _);first|(refine cx _ (envG _ _ _ _ _ _) rfl rfl rfl rfl rfl ?_ (hc:=by first|exact lv|exact k1|exact k2|exact k3|exact k4|exact k5))|(refine eqsx 3 _ rfl rfl rfl rfl (.inl rfl) (by kernel_rfl) (by kernel_rfl) rfl ?_)|(refine sx ?_)));refine ja0 ?_;refine kl1 ?_
  refine regX [1,2,3,31] ?_;intro w0 A S0 f0;(repeat (first|(refine gtx rfl rfl ?_)|(refine gx ?_)|((with_reducible show DR _ _ _ (_::_) _);first|(refine cx _ (envG _ _ _ _ _ _) rfl rfl rfl rfl rfl ?_ (hc:=by first|exact lv|exact k1|exact k2|exact k3|exact k4|exact k5))|(refine eqsx 3 _ rfl rfl rfl rfl (.inl rfl) (by kernel_rfl) (by kernel_rfl) rfl ?_)|(refine sx ?_))));refine ja0 ?_;refine kl1 ?_
  refine iffs ?_
  refine regX [1,2,3,7,8] ?_;intro w0 A S0 f0;(repeat ((with_reducible show DR _ _ _ (_::_) _);first|(refine cx _ (envG _ _ _ _ _ _) rfl rfl rfl rfl rfl ?_ (hc:=by first|exact lv|exact k1|exact k2|exact k3|exact k4|exact k5))|(refine eqsx 3 _ rfl rfl rfl rfl (.inl rfl) (by kernel_rfl) (by kernel_rfl) rfl ?_)|(refine sx ?_)));refine ja0 ?_;refine kl1 ?_
  refine regX [2,7,8,9,10] ?_;intro w0 A S0 f0;(repeat ((with_reducible show DR _ _ _ (_::_) _);first|(refine cx _ (envG _ _ _ _ _ _) rfl rfl rfl rfl rfl ?_ (hc:=by first|exact lv|exact k1|exact k2|exact k3|exact k4|exact k5))|(refine eqsx 3 _ rfl rfl rfl rfl (.inl rfl) (by kernel_rfl) (by kernel_rfl) rfl ?_)|(refine sx ?_)));refine ja0 ?_;refine kl1 ?_
  refine regX [2,7,8,9,10,11,12,13,14] ?_;intro w0 A S0 f0;(repeat ((with_reducible show DR _ _ _ (_::_) _);first|(refine cx _ (envG _ _ _ _ _ _) rfl rfl rfl rfl rfl ?_ (hc:=by first|exact lv|exact k1|exact k2|exact k3|exact k4|exact k5))|(refine eqsx 3 _ rfl rfl rfl rfl (.inl rfl) (by kernel_rfl) (by kernel_rfl) rfl ?_)|(refine sx ?_)));refine ja0 ?_;refine kl1 ?_
  refine regX [7,8,9,10,11,12,13,14,15,16,17,18] ?_;intro w0 A S0 f0;(repeat ((with_reducible show DR _ _ _ (_::_) _);first|(refine cx _ (envG _ _ _ _ _ _) rfl rfl rfl rfl rfl ?_ (hc:=by first|exact lv|exact k1|exact k2|exact k3|exact k4|exact k5))|(refine eqsx 3 _ rfl rfl rfl rfl (.inl rfl) (by kernel_rfl) (by kernel_rfl) rfl ?_)|(refine sx ?_)));refine ja0 ?_;refine kl1 ?_
  refine regX [6] ?_;intro w0 A S0 f0;(repeat (first|(refine gtx rfl rfl ?_)|(refine gx ?_)|((with_reducible show DR _ _ _ (_::_) _);first|(refine cx _ (envG _ _ _ _ _ _) rfl rfl rfl rfl rfl ?_ (hc:=by first|exact lv|exact k1|exact k2|exact k3|exact k4|exact k5))|(refine eqsx 3 _ rfl rfl rfl rfl (.inl rfl) (by kernel_rfl) (by kernel_rfl) rfl ?_)|(refine sx ?_))));refine ja0 ?_;refine kl1 ?_
  exact retF
 have d1:decide ((200:Int)<(l.length:Int))=false:=decide_eq_false (by omega)
 have hX:=and_true;refine pcx Tryd.func4 rfl Tryd.ntmps4 Tryd.results4 rfl ?_;intro w0 A
 have hX:=And.intro d1 (And.intro d3 (And.intro dcIj (And.intro dcSj (Bool.and_self))))
 refine regX [1,2,3] ?_;intro w0 A S0 f0;(repeat ((with_reducible show DR _ _ _ (_::_) _);first|(refine cx _ (envG _ _ _ _ _ _) rfl rfl rfl rfl rfl ?_ (hc:=by first|exact lv|exact k1|exact k2|exact k3|exact k4|exact k5))|(refine eqsx 3 _ rfl rfl rfl rfl (.inl rfl) (by kernel_rfl) (by kernel_rfl) rfl ?_)|(refine sx ?_)));refine ja0 ?_;refine kl1 ?_
 refine regX [1,2,3,31] ?_;intro w0 A S0 f0;(repeat (first|(refine gtx rfl rfl ?_)|(refine gx ?_)|((with_reducible show DR _ _ _ (_::_) _);first|(refine cx _ (envG _ _ _ _ _ _) rfl rfl rfl rfl rfl ?_ (hc:=by first|exact lv|exact k1|exact k2|exact k3|exact k4|exact k5))|(refine eqsx 3 _ rfl rfl rfl rfl (.inl rfl) (by kernel_rfl) (by kernel_rfl) rfl ?_)|(refine sx ?_))));refine ja0 ?_;refine kl1 ?_
 refine iffs ?_
 refine regX [1,2,3,7,8] ?_;intro w0 A S0 f0;(repeat ((with_reducible show DR _ _ _ (_::_) _);first|(refine cx _ (envG _ _ _ _ _ _) rfl rfl rfl rfl rfl ?_ (hc:=by first|exact lv|exact k1|exact k2|exact k3|exact k4|exact k5))|(refine eqsx 3 _ rfl rfl rfl rfl (.inl rfl) (by kernel_rfl) (by kernel_rfl) rfl ?_)|(refine sx ?_)));refine ja0 ?_;refine kl1 ?_
 refine regX [2,7,8,9,10] ?_;intro w0 A S0 f0;(repeat ((with_reducible show DR _ _ _ (_::_) _);first|(refine cx _ (envG _ _ _ _ _ _) rfl rfl rfl rfl rfl ?_ (hc:=by first|exact lv|exact k1|exact k2|exact k3|exact k4|exact k5))|(refine eqsx 3 _ rfl rfl rfl rfl (.inl rfl) (by kernel_rfl) (by kernel_rfl) rfl ?_)|(refine sx ?_)));refine ja0 ?_;refine kl1 ?_
 refine regX [2,7,8,9,10,11,12,13,14] ?_;intro w0 A S0 f0;(repeat ((with_reducible show DR _ _ _ (_::_) _);first|(refine cx _ (envG _ _ _ _ _ _) rfl rfl rfl rfl rfl ?_ (hc:=by first|exact lv|exact k1|exact k2|exact k3|exact k4|exact k5))|(refine eqsx 3 _ rfl rfl rfl rfl (.inl rfl) (by kernel_rfl) (by kernel_rfl) rfl ?_)|(refine sx ?_)));refine ja0 ?_;refine kl1 ?_
 refine regX [7,8,9,10,11,12,13,14,15,16,17,18] ?_;intro w0 A S0 f0;(repeat ((with_reducible show DR _ _ _ (_::_) _);first|(refine cx _ (envG _ _ _ _ _ _) rfl rfl rfl rfl rfl ?_ (hc:=by first|exact lv|exact k1|exact k2|exact k3|exact k4|exact k5))|(refine eqsx 3 _ rfl rfl rfl rfl (.inl rfl) (by kernel_rfl) (by kernel_rfl) rfl ?_)|(refine sx ?_)));refine ja0 ?_;refine kl1 ?_
 refine regX [6] ?_;intro w0 A S0 f0;(repeat (first|(refine gtx rfl rfl ?_)|(refine gx ?_)|((with_reducible show DR _ _ _ (_::_) _);first|(refine cx _ (envG _ _ _ _ _ _) rfl rfl rfl rfl rfl ?_ (hc:=by first|exact lv|exact k1|exact k2|exact k3|exact k4|exact k5))|(refine eqsx 3 _ rfl rfl rfl rfl (.inl rfl) (by kernel_rfl) (by kernel_rfl) rfl ?_)|(refine sx ?_))));refine ja0 ?_;refine kl1 ?_
 exact retF
end Go.Proofs.YtlhdeplkmghniaaDoor
