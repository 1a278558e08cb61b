/- Scripts: a setup's line. Scripts: the document's line of a setup. -/
import Derived.Test.YtlhdeplkmghniaaDoorSPD
import Derived.Test.YtlhdeplkmghniaaDoorSJQ
import Derived.Test.YtlhdeplkmghniaaDoorSJA
import Derived.Test.YtlhdeplkmghniaaDoorSPH
set_option linter.unusedSimpArgs false
set_option linter.unusedVariables false
set_option maxRecDepth 10000
namespace Go.Proofs.YtlhdeplkmghniaaDoor
open Go.RowKit
def sepD (c:Su):D:=.cons (.v (.int .i64 c.sv)) (.cons (.v (.int .u64 (c.li:Int))) (.cons (.v (.int .i64 c.hi)) (.cons (.v (.int .i64 c.sz)) (.cons (.v (.int .i64 c.gap)) .nil))))
theorem jc6 (c:Su):sepD c = .cons (.v (.int .i64 c.sv)) (.cons (.v (.int .u64 (c.li:Int))) (.cons (.v (.int .i64 c.hi)) (.cons (.v (.int .i64 c.sz)) (.cons (.v (.int .i64 c.gap)) .nil)))):=rfl
structure sepB (c:Su):Prop where
 sv:i64B c.sv
 li:c.li<18446744073709551616
 hi:i64B c.hi
 sz:i64B c.sz
 gap:i64B c.gap
def lnX (sv li hi sz gap:Int):List UInt8:=wldT++[32]++dgZ sv++[32]++dgZ li++[32]++dgZ hi++[32]++dgZ sz++[32]++dgZ gap
theorem qo2 {c:Su} (h:okS c):inW (wsS c)=lnX c.sv (c.li:Int) c.hi c.sz c.gap:=by
 obtain ⟨a,b,d,e,f⟩:=h
 have hl:okN (c.li:Int)=true:=jv6 b
 unfold lnX
 rw [jh1 a,jh1 hl,jh1 d,jh1 e,jh1 f]
 simp [wsS,inW,dgI]
set_option maxHeartbeats 16000000 in
theorem qx8 (c:Su) (h:sepB c):PC (ja4 Tryd.prog) 46 [sepD c] (seS (wlO c)):=by
 obtain ⟨h1,h2,h3,h4,h5⟩:=h
 have hok:=@qo2 c
 have hno:=@kb7 c
 have hyes:=@jw1 c
 unfold okS at *
 obtain ⟨sv,li,hi,sz,gap⟩:=c
 simp only at *
 generalize wlO ⟨sv,li,hi,sz,gap⟩=R at *
 generalize inW (wsS ⟨sv,li,hi,sz,gap⟩)=I at *
 by_cases hl:li≤mT
 ·have e0:decide ((1099511627776:Int)<(li:Int))=false:=decide_eq_false (by unfold mT at hl;omega)
  have em:(if (1099511627776:Int)<(li:Int) then (1099511627776:Int) else (li:Int))=(li:Int):=if_neg (by unfold mT at hl;omega)
  have hli:i64B (li:Int):=by unfold mT at hl;exact ⟨by omega,by omega⟩
  have z1:=je9 sv h1
  have z2:=je9 (li:Int) hli
  have z3:=je9 hi h3
  have z4:=je9 sz h4
  have z5:=je9 gap h5
  have k1:=jf9 (.cons (.v (.int .i64 sv)) (.cons (.v (.int .u64 (li:Int))) (.cons (.v (.int .i64 hi)) (.cons (.v (.int .i64 sz)) (.cons (.v (.int .i64 gap)) .nil))))) rfl (wldT) (5) (false) sv rfl h1 (by decide)
  have e1:(wldT++[32]++dgZ sv).length=5+1+(dgZ sv).length:=by rw [List.length_append,List.length_append];rfl
  have k2:=jf9 (.cons (.v (.int .i64 sv)) (.cons (.v (.int .u64 (li:Int))) (.cons (.v (.int .i64 hi)) (.cons (.v (.int .i64 sz)) (.cons (.v (.int .i64 gap)) .nil))))) rfl (wldT++[32]++dgZ sv) (5+1+(dgZ sv).length) (false||!okN sv) (li:Int) e1 hli (by omega)
  have e2:(wldT++[32]++dgZ sv++[32]++dgZ (li:Int)).length=5+1+(dgZ sv).length+1+(dgZ (li:Int)).length:=by rw [List.length_append,List.length_append,e1];rfl
  have k3:=jf9 (.cons (.v (.int .i64 sv)) (.cons (.v (.int .u64 (li:Int))) (.cons (.v (.int .i64 hi)) (.cons (.v (.int .i64 sz)) (.cons (.v (.int .i64 gap)) .nil))))) rfl (wldT++[32]++dgZ sv++[32]++dgZ (li:Int)) (5+1+(dgZ sv).length+1+(dgZ (li:Int)).length) (false||!okN sv||!okN (li:Int)) hi e2 h3 (by omega)
  have e3:(wldT++[32]++dgZ sv++[32]++dgZ (li:Int)++[32]++dgZ hi).length=5+1+(dgZ sv).length+1+(dgZ (li:Int)).length+1+(dgZ hi).length:=by rw [List.length_append,List.length_append,e2];rfl
  have k4:=jf9 (.cons (.v (.int .i64 sv)) (.cons (.v (.int .u64 (li:Int))) (.cons (.v (.int .i64 hi)) (.cons (.v (.int .i64 sz)) (.cons (.v (.int .i64 gap)) .nil))))) rfl (wldT++[32]++dgZ sv++[32]++dgZ (li:Int)++[32]++dgZ hi) (5+1+(dgZ sv).length+1+(dgZ (li:Int)).length+1+(dgZ hi).length) (false||!okN sv||!okN (li:Int)||!okN hi) sz e3 h4 (by omega)
  have e4:(wldT++[32]++dgZ sv++[32]++dgZ (li:Int)++[32]++dgZ hi++[32]++dgZ sz).length=5+1+(dgZ sv).length+1+(dgZ (li:Int)).length+1+(dgZ hi).length+1+(dgZ sz).length:=by rw [List.length_append,List.length_append,e3];rfl
  have k5:=jf9 (.cons (.v (.int .i64 sv)) (.cons (.v (.int .u64 (li:Int))) (.cons (.v (.int .i64 hi)) (.cons (.v (.int .i64 sz)) (.cons (.v (.int .i64 gap)) .nil))))) rfl (wldT++[32]++dgZ sv++[32]++dgZ (li:Int)++[32]++dgZ hi++[32]++dgZ sz) (5+1+(dgZ sv).length+1+(dgZ (li:Int)).length+1+(dgZ hi).length+1+(dgZ sz).length) (false||!okN sv||!okN (li:Int)||!okN hi||!okN sz) gap e4 h5 (by omega)
  have e5:(wldT++[32]++dgZ sv++[32]++dgZ (li:Int)++[32]++dgZ hi++[32]++dgZ sz++[32]++dgZ gap).length=5+1+(dgZ sv).length+1+(dgZ (li:Int)).length+1+(dgZ hi).length+1+(dgZ sz).length+1+(dgZ gap).length:=by rw [List.length_append,List.length_append,e4];rfl
  generalize hB:(false||!okN sv||!okN (li:Int)||!okN hi||!okN sz||!okN gap)=bad at *
  have hX:=and_true;refine pcx Tryd.func46 rfl Tryd.ntmps46 Tryd.results46 rfl ?_;intro w0 A
  have hX:=And.intro jb0 (And.intro e0 (em))
  refine regX [1] ?_;intro w0 A S0 f0;(repeat ((with_reducible show DR _ _ _ (_::_) _);first|(refine cx _ (envG _ _ _ _ _ _) rfl rfl rfl rfl rfl ?_ (hc:=by first|fail))|(refine ex rfl (jg1 rfl rfl rfl rfl rfl) ?_)|(refine ex rfl (jd5 rfl rfl rfl) ?_)|(refine ex rfl (ja1 (envG _ _ _ _ _ _) 1 k1 rfl rfl rfl rfl) ?_)|(refine ex rfl (ja1 (envG _ _ _ _ _ _) 1 k2 rfl rfl rfl rfl) ?_)|(refine ex rfl (ja1 (envG _ _ _ _ _ _) 1 k3 rfl rfl rfl rfl) ?_)|(refine ex rfl (ja1 (envG _ _ _ _ _ _) 1 k4 rfl rfl rfl rfl) ?_)|(refine ex rfl (ja1 (envG _ _ _ _ _ _) 1 k5 rfl rfl rfl rfl) ?_)|(refine sx ?_)));refine ja0 ?_;refine kl1 ?_
  refine regX [1,4] ?_;intro w0 A S0 f0;(repeat ((with_reducible show DR _ _ _ (_::_) _);first|(refine cx _ (envG _ _ _ _ _ _) rfl rfl rfl rfl rfl ?_ (hc:=by first|fail))|(refine ex rfl (jg1 rfl rfl rfl rfl rfl) ?_)|(refine ex rfl (jd5 rfl rfl rfl) ?_)|(refine ex rfl (ja1 (envG _ _ _ _ _ _) 1 k1 rfl rfl rfl rfl) ?_)|(refine ex rfl (ja1 (envG _ _ _ _ _ _) 1 k2 rfl rfl rfl rfl) ?_)|(refine ex rfl (ja1 (envG _ _ _ _ _ _) 1 k3 rfl rfl rfl rfl) ?_)|(refine ex rfl (ja1 (envG _ _ _ _ _ _) 1 k4 rfl rfl rfl rfl) ?_)|(refine ex rfl (ja1 (envG _ _ _ _ _ _) 1 k5 rfl rfl rfl rfl) ?_)|(refine sx ?_)));refine ja0 ?_;refine kl1 ?_
  refine regX [1,4] ?_;intro w0 A S0 f0;(repeat ((with_reducible show DR _ _ _ (_::_) _);first|(refine cx _ (envG _ _ _ _ _ _) rfl rfl rfl rfl rfl ?_ (hc:=by first|fail))|(refine ex rfl (jg1 rfl rfl rfl rfl rfl) ?_)|(refine ex rfl (jd5 rfl rfl rfl) ?_)|(refine ex rfl (ja1 (envG _ _ _ _ _ _) 1 k1 rfl rfl rfl rfl) ?_)|(refine ex rfl (ja1 (envG _ _ _ _ _ _) 1 k2 rfl rfl rfl rfl) ?_)|(refine ex rfl (ja1 (envG _ _ _ _ _ _) 1 k3 rfl rfl rfl rfl) ?_)|(refine ex rfl (ja1 (envG _ _ _ _ _ _) 1 k4 rfl rfl rfl rfl) ?_)|(refine ex rfl (ja1 (envG _ _ _ _ _ _) 1 k5 rfl rfl rfl rfl) ?_)|(refine sx ?_)));refine ja0 ?_;refine kl1 ?_
  refine regX [1,4] ?_;intro w0 A S0 f0;(repeat ((with_reducible show DR _ _ _ (_::_) _);first|(refine cx _ (envG _ _ _ _ _ _) rfl rfl rfl rfl rfl ?_ (hc:=by first|fail))|(refine ex rfl (jg1 rfl rfl rfl rfl rfl) ?_)|(refine ex rfl (jd5 rfl rfl rfl) ?_)|(refine ex rfl (ja1 (envG _ _ _ _ _ _) 1 k1 rfl rfl rfl rfl) ?_)|(refine ex rfl (ja1 (envG _ _ _ _ _ _) 1 k2 rfl rfl rfl rfl) ?_)|(refine ex rfl (ja1 (envG _ _ _ _ _ _) 1 k3 rfl rfl rfl rfl) ?_)|(refine ex rfl (ja1 (envG _ _ _ _ _ _) 1 k4 rfl rfl rfl rfl) ?_)|(refine ex rfl (ja1 (envG _ _ _ _ _ _) 1 k5 rfl rfl rfl rfl) ?_)|(refine sx ?_)));refine ja0 ?_;refine kl1 ?_
  refine regX [1,4] ?_;intro w0 A S0 f0;(repeat ((with_reducible show DR _ _ _ (_::_) _);first|(refine cx _ (envG _ _ _ _ _ _) rfl rfl rfl rfl rfl ?_ (hc:=by first|fail))|(refine ex rfl (jg1 rfl rfl rfl rfl rfl) ?_)|(refine ex rfl (jd5 rfl rfl rfl) ?_)|(refine ex rfl (ja1 (envG _ _ _ _ _ _) 1 k1 rfl rfl rfl rfl) ?_)|(refine ex rfl (ja1 (envG _ _ _ _ _ _) 1 k2 rfl rfl rfl rfl) ?_)|(refine ex rfl (ja1 (envG _ _ _ _ _ _) 1 k3 rfl rfl rfl rfl) ?_)|(refine ex rfl (ja1 (envG _ _ _ _ _ _) 1 k4 rfl rfl rfl rfl) ?_)|(refine ex rfl (ja1 (envG _ _ _ _ _ _) 1 k5 rfl rfl rfl rfl) ?_)|(refine sx ?_)));refine ja0 ?_;refine kl1 ?_
  refine regX [1,4] ?_;intro w0 A S0 f0;(repeat ((with_reducible show DR _ _ _ (_::_) _);first|(refine cx _ (envG _ _ _ _ _ _) rfl rfl rfl rfl rfl ?_ (hc:=by first|fail))|(refine ex rfl (jg1 rfl rfl rfl rfl rfl) ?_)|(refine ex rfl (jd5 rfl rfl rfl) ?_)|(refine ex rfl (ja1 (envG _ _ _ _ _ _) 1 k1 rfl rfl rfl rfl) ?_)|(refine ex rfl (ja1 (envG _ _ _ _ _ _) 1 k2 rfl rfl rfl rfl) ?_)|(refine ex rfl (ja1 (envG _ _ _ _ _ _) 1 k3 rfl rfl rfl rfl) ?_)|(refine ex rfl (ja1 (envG _ _ _ _ _ _) 1 k4 rfl rfl rfl rfl) ?_)|(refine ex rfl (ja1 (envG _ _ _ _ _ _) 1 k5 rfl rfl rfl rfl) ?_)|(refine sx ?_)));refine ja0 ?_;refine kl1 ?_
  refine regX [4] ?_;intro w0 A S0 f0;(repeat ((with_reducible show DR _ _ _ (_::_) _);first|(refine cx _ (envG _ _ _ _ _ _) rfl rfl rfl rfl rfl ?_ (hc:=by first|fail))|(refine ex rfl (jg1 rfl rfl rfl rfl rfl) ?_)|(refine ex rfl (jd5 rfl rfl rfl) ?_)|(refine ex rfl (ja1 (envG _ _ _ _ _ _) 1 k1 rfl rfl rfl rfl) ?_)|(refine ex rfl (ja1 (envG _ _ _ _ _ _) 1 k2 rfl rfl rfl rfl) ?_)|(refine ex rfl (ja1 (envG _ _ _ _ _ _) 1 k3 rfl rfl rfl rfl) ?_)|(refine ex rfl (ja1 (envG _ _ _ _ _ _) 1 k4 rfl rfl rfl rfl) ?_)|(refine ex rfl (ja1 (envG _ _ _ _ _ _) 1 k5 rfl rfl rfl rfl) ?_)|(refine sx ?_)));refine ja0 ?_;refine kl1 ?_
  cases bad with
  | true =>
   rw [hno (fun h=>by simp_all [jv6])]
   have hX:=And.intro jb0 (and_true)
   refine regX [4,37] ?_;intro w0 A S0 f0;(repeat ((with_reducible show DR _ _ _ (_::_) _);first|(refine cx _ (envG _ _ _ _ _ _) rfl rfl rfl rfl rfl ?_ (hc:=by first|fail))|(refine ex rfl (jg1 rfl rfl rfl rfl rfl) ?_)|(refine ex rfl (jd5 rfl rfl rfl) ?_)|(refine ex rfl (ja1 (envG _ _ _ _ _ _) 1 k1 rfl rfl rfl rfl) ?_)|(refine ex rfl (ja1 (envG _ _ _ _ _ _) 1 k2 rfl rfl rfl rfl) ?_)|(refine ex rfl (ja1 (envG _ _ _ _ _ _) 1 k3 rfl rfl rfl rfl) ?_)|(refine ex rfl (ja1 (envG _ _ _ _ _ _) 1 k4 rfl rfl rfl rfl) ?_)|(refine ex rfl (ja1 (envG _ _ _ _ _ _) 1 k5 rfl rfl rfl rfl) ?_)|(refine sx ?_)));refine ja0 ?_;refine kl1 ?_
   refine iftx ?_
   refine regX [2,3] ?_;intro w0 A S0 f0;(repeat ((with_reducible show DR _ _ _ (_::_) _);first|(refine cx _ (envG _ _ _ _ _ _) rfl rfl rfl rfl rfl ?_ (hc:=by first|fail))|(refine ex rfl (jg1 rfl rfl rfl rfl rfl) ?_)|(refine ex rfl (jd5 rfl rfl rfl) ?_)|(refine ex rfl (ja1 (envG _ _ _ _ _ _) 1 k1 rfl rfl rfl rfl) ?_)|(refine ex rfl (ja1 (envG _ _ _ _ _ _) 1 k2 rfl rfl rfl rfl) ?_)|(refine ex rfl (ja1 (envG _ _ _ _ _ _) 1 k3 rfl rfl rfl rfl) ?_)|(refine ex rfl (ja1 (envG _ _ _ _ _ _) 1 k4 rfl rfl rfl rfl) ?_)|(refine ex rfl (ja1 (envG _ _ _ _ _ _) 1 k5 rfl rfl rfl rfl) ?_)|(refine sx ?_)));refine ja0 ?_;refine kl1 ?_
   exact retF
  | false =>
   have ok:okN sv=true∧li≤mT∧okN hi=true∧okN sz=true∧okN gap=true:=by simp_all
   rw [hyes ok,hok ok]
   unfold lnX
   have hX:=And.intro jb0 (and_true)
   refine regX [4,37] ?_;intro w0 A S0 f0;(repeat ((with_reducible show DR _ _ _ (_::_) _);first|(refine cx _ (envG _ _ _ _ _ _) rfl rfl rfl rfl rfl ?_ (hc:=by first|fail))|(refine ex rfl (jg1 rfl rfl rfl rfl rfl) ?_)|(refine ex rfl (jd5 rfl rfl rfl) ?_)|(refine ex rfl (ja1 (envG _ _ _ _ _ _) 1 k1 rfl rfl rfl rfl) ?_)|(refine ex rfl (ja1 (envG _ _ _ _ _ _) 1 k2 rfl rfl rfl rfl) ?_)|(refine ex rfl (ja1 (envG _ _ _ _ _ _) 1 k3 rfl rfl rfl rfl) ?_)|(refine ex rfl (ja1 (envG _ _ _ _ _ _) 1 k4 rfl rfl rfl rfl) ?_)|(refine ex rfl (ja1 (envG _ _ _ _ _ _) 1 k5 rfl rfl rfl rfl) ?_)|(refine sx ?_)));refine ja0 ?_;refine kl1 ?_
   refine iffs ?_
   refine regX [2,3] ?_;intro w0 A S0 f0;(repeat ((with_reducible show DR _ _ _ (_::_) _);first|(refine cx _ (envG _ _ _ _ _ _) rfl rfl rfl rfl rfl ?_ (hc:=by first|fail))|(refine ex rfl (jg1 rfl rfl rfl rfl rfl) ?_)|(refine ex rfl (jd5 rfl rfl rfl) ?_)|(refine ex rfl (ja1 (envG _ _ _ _ _ _) 1 k1 rfl rfl rfl rfl) ?_)|(refine ex rfl (ja1 (envG _ _ _ _ _ _) 1 k2 rfl rfl rfl rfl) ?_)|(refine ex rfl (ja1 (envG _ _ _ _ _ _) 1 k3 rfl rfl rfl rfl) ?_)|(refine ex rfl (ja1 (envG _ _ _ _ _ _) 1 k4 rfl rfl rfl rfl) ?_)|(refine ex rfl (ja1 (envG _ _ _ _ _ _) 1 k5 rfl rfl rfl rfl) ?_)|(refine sx ?_)));refine ja0 ?_;refine kl1 ?_
   exact retF
 ·have e0:decide ((1099511627776:Int)<(li:Int))=true:=decide_eq_true (by unfold mT at hl;omega)
  have em:(if (1099511627776:Int)<(li:Int) then (1099511627776:Int) else (li:Int))=1099511627776:=if_pos (by unfold mT at hl;omega)
  have z1:=je9 sv h1
  have z2:=je9 1099511627776 ⟨by decide,by decide⟩
  have z3:=je9 hi h3
  have z4:=je9 sz h4
  have z5:=je9 gap h5
  have k1:=jf9 (.cons (.v (.int .i64 sv)) (.cons (.v (.int .u64 (li:Int))) (.cons (.v (.int .i64 hi)) (.cons (.v (.int .i64 sz)) (.cons (.v (.int .i64 gap)) .nil))))) rfl (wldT) (5) (true) sv rfl h1 (by decide)
  have e1:(wldT++[32]++dgZ sv).length=5+1+(dgZ sv).length:=by rw [List.length_append,List.length_append];rfl
  have k2:=jf9 (.cons (.v (.int .i64 sv)) (.cons (.v (.int .u64 (li:Int))) (.cons (.v (.int .i64 hi)) (.cons (.v (.int .i64 sz)) (.cons (.v (.int .i64 gap)) .nil))))) rfl (wldT++[32]++dgZ sv) (5+1+(dgZ sv).length) (true||!okN sv) 1099511627776 e1 ⟨by decide,by decide⟩ (by omega)
  have e2:(wldT++[32]++dgZ sv++[32]++dgZ 1099511627776).length=5+1+(dgZ sv).length+1+(dgZ 1099511627776).length:=by rw [List.length_append,List.length_append,e1];rfl
  have k3:=jf9 (.cons (.v (.int .i64 sv)) (.cons (.v (.int .u64 (li:Int))) (.cons (.v (.int .i64 hi)) (.cons (.v (.int .i64 sz)) (.cons (.v (.int .i64 gap)) .nil))))) rfl (wldT++[32]++dgZ sv++[32]++dgZ 1099511627776) (5+1+(dgZ sv).length+1+(dgZ 1099511627776).length) (true||!okN sv||!okN 1099511627776) hi e2 h3 (by omega)
  have e3:(wldT++[32]++dgZ sv++[32]++dgZ 1099511627776++[32]++dgZ hi).length=5+1+(dgZ sv).length+1+(dgZ 1099511627776).length+1+(dgZ hi).length:=by rw [List.length_append,List.length_append,e2];rfl
  have k4:=jf9 (.cons (.v (.int .i64 sv)) (.cons (.v (.int .u64 (li:Int))) (.cons (.v (.int .i64 hi)) (.cons (.v (.int .i64 sz)) (.cons (.v (.int .i64 gap)) .nil))))) rfl (wldT++[32]++dgZ sv++[32]++dgZ 1099511627776++[32]++dgZ hi) (5+1+(dgZ sv).length+1+(dgZ 1099511627776).length+1+(dgZ hi).length) (true||!okN sv||!okN 1099511627776||!okN hi) sz e3 h4 (by omega)
  have e4:(wldT++[32]++dgZ sv++[32]++dgZ 1099511627776++[32]++dgZ hi++[32]++dgZ sz).length=5+1+(dgZ sv).length+1+(dgZ 1099511627776).length+1+(dgZ hi).length+1+(dgZ sz).length:=by rw [List.length_append,List.length_append,e3];rfl
  have k5:=jf9 (.cons (.v (.int .i64 sv)) (.cons (.v (.int .u64 (li:Int))) (.cons (.v (.int .i64 hi)) (.cons (.v (.int .i64 sz)) (.cons (.v (.int .i64 gap)) .nil))))) rfl (wldT++[32]++dgZ sv++[32]++dgZ 1099511627776++[32]++dgZ hi++[32]++dgZ sz) (5+1+(dgZ sv).length+1+(dgZ 1099511627776).length+1+(dgZ hi).length+1+(dgZ sz).length) (true||!okN sv||!okN 1099511627776||!okN hi||!okN sz) gap e4 h5 (by omega)
  have e5:(wldT++[32]++dgZ sv++[32]++dgZ 1099511627776++[32]++dgZ hi++[32]++dgZ sz++[32]++dgZ gap).length=5+1+(dgZ sv).length+1+(dgZ 1099511627776).length+1+(dgZ hi).length+1+(dgZ sz).length+1+(dgZ gap).length:=by rw [List.length_append,List.length_append,e4];rfl
  generalize hB:(true||!okN sv||!okN 1099511627776||!okN hi||!okN sz||!okN gap)=bad at *
  have hX:=and_true;refine pcx Tryd.func46 rfl Tryd.ntmps46 Tryd.results46 rfl ?_;intro w0 A
  have hX:=And.intro jb0 (And.intro e0 (em))
  refine regX [1] ?_;intro w0 A S0 f0;(repeat ((with_reducible show DR _ _ _ (_::_) _);first|(refine cx _ (envG _ _ _ _ _ _) rfl rfl rfl rfl rfl ?_ (hc:=by first|fail))|(refine ex rfl (jg1 rfl rfl rfl rfl rfl) ?_)|(refine ex rfl (jd5 rfl rfl rfl) ?_)|(refine ex rfl (ja1 (envG _ _ _ _ _ _) 1 k1 rfl rfl rfl rfl) ?_)|(refine ex rfl (ja1 (envG _ _ _ _ _ _) 1 k2 rfl rfl rfl rfl) ?_)|(refine ex rfl (ja1 (envG _ _ _ _ _ _) 1 k3 rfl rfl rfl rfl) ?_)|(refine ex rfl (ja1 (envG _ _ _ _ _ _) 1 k4 rfl rfl rfl rfl) ?_)|(refine ex rfl (ja1 (envG _ _ _ _ _ _) 1 k5 rfl rfl rfl rfl) ?_)|(refine sx ?_)));refine ja0 ?_;refine kl1 ?_
  refine regX [1,4] ?_;intro w0 A S0 f0;(repeat ((with_reducible show DR _ _ _ (_::_) _);first|(refine cx _ (envG _ _ _ _ _ _) rfl rfl rfl rfl rfl ?_ (hc:=by first|fail))|(refine ex rfl (jg1 rfl rfl rfl rfl rfl) ?_)|(refine ex rfl (jd5 rfl rfl rfl) ?_)|(refine ex rfl (ja1 (envG _ _ _ _ _ _) 1 k1 rfl rfl rfl rfl) ?_)|(refine ex rfl (ja1 (envG _ _ _ _ _ _) 1 k2 rfl rfl rfl rfl) ?_)|(refine ex rfl (ja1 (envG _ _ _ _ _ _) 1 k3 rfl rfl rfl rfl) ?_)|(refine ex rfl (ja1 (envG _ _ _ _ _ _) 1 k4 rfl rfl rfl rfl) ?_)|(refine ex rfl (ja1 (envG _ _ _ _ _ _) 1 k5 rfl rfl rfl rfl) ?_)|(refine sx ?_)));refine ja0 ?_;refine kl1 ?_
  refine regX [1,4] ?_;intro w0 A S0 f0;(repeat ((with_reducible show DR _ _ _ (_::_) _);first|(refine cx _ (envG _ _ _ _ _ _) rfl rfl rfl rfl rfl ?_ (hc:=by first|fail))|(refine ex rfl (jg1 rfl rfl rfl rfl rfl) ?_)|(refine ex rfl (jd5 rfl rfl rfl) ?_)|(refine ex rfl (ja1 (envG _ _ _ _ _ _) 1 k1 rfl rfl rfl rfl) ?_)|(refine ex rfl (ja1 (envG _ _ _ _ _ _) 1 k2 rfl rfl rfl rfl) ?_)|(refine ex rfl (ja1 (envG _ _ _ _ _ _) 1 k3 rfl rfl rfl rfl) ?_)|(refine ex rfl (ja1 (envG _ _ _ _ _ _) 1 k4 rfl rfl rfl rfl) ?_)|(refine ex rfl (ja1 (envG _ _ _ _ _ _) 1 k5 rfl rfl rfl rfl) ?_)|(refine sx ?_)));refine ja0 ?_;refine kl1 ?_
  refine regX [1,4] ?_;intro w0 A S0 f0;(repeat ((with_reducible show DR _ _ _ (_::_) _);first|(refine cx _ (envG _ _ _ _ _ _) rfl rfl rfl rfl rfl ?_ (hc:=by first|fail))|(refine ex rfl (jg1 rfl rfl rfl rfl rfl) ?_)|(refine ex rfl (jd5 rfl rfl rfl) ?_)|(refine ex rfl (ja1 (envG _ _ _ _ _ _) 1 k1 rfl rfl rfl rfl) ?_)|(refine ex rfl (ja1 (envG _ _ _ _ _ _) 1 k2 rfl rfl rfl rfl) ?_)|(refine ex rfl (ja1 (envG _ _ _ _ _ _) 1 k3 rfl rfl rfl rfl) ?_)|(refine ex rfl (ja1 (envG _ _ _ _ _ _) 1 k4 rfl rfl rfl rfl) ?_)|(refine ex rfl (ja1 (envG _ _ _ _ _ _) 1 k5 rfl rfl rfl rfl) ?_)|(refine sx ?_)));refine ja0 ?_;refine kl1 ?_
  refine regX [1,4] ?_;intro w0 A S0 f0;(repeat ((with_reducible show DR _ _ _ (_::_) _);first|(refine cx _ (envG _ _ _ _ _ _) rfl rfl rfl rfl rfl ?_ (hc:=by first|fail))|(refine ex rfl (jg1 rfl rfl rfl rfl rfl) ?_)|(refine ex rfl (jd5 rfl rfl rfl) ?_)|(refine ex rfl (ja1 (envG _ _ _ _ _ _) 1 k1 rfl rfl rfl rfl) ?_)|(refine ex rfl (ja1 (envG _ _ _ _ _ _) 1 k2 rfl rfl rfl rfl) ?_)|(refine ex rfl (ja1 (envG _ _ _ _ _ _) 1 k3 rfl rfl rfl rfl) ?_)|(refine ex rfl (ja1 (envG _ _ _ _ _ _) 1 k4 rfl rfl rfl rfl) ?_)|(refine ex rfl (ja1 (envG _ _ _ _ _ _) 1 k5 rfl rfl rfl rfl) ?_)|(refine sx ?_)));refine ja0 ?_;refine kl1 ?_
  refine regX [1,4] ?_;intro w0 A S0 f0;(repeat ((with_reducible show DR _ _ _ (_::_) _);first|(refine cx _ (envG _ _ _ _ _ _) rfl rfl rfl rfl rfl ?_ (hc:=by first|fail))|(refine ex rfl (jg1 rfl rfl rfl rfl rfl) ?_)|(refine ex rfl (jd5 rfl rfl rfl) ?_)|(refine ex rfl (ja1 (envG _ _ _ _ _ _) 1 k1 rfl rfl rfl rfl) ?_)|(refine ex rfl (ja1 (envG _ _ _ _ _ _) 1 k2 rfl rfl rfl rfl) ?_)|(refine ex rfl (ja1 (envG _ _ _ _ _ _) 1 k3 rfl rfl rfl rfl) ?_)|(refine ex rfl (ja1 (envG _ _ _ _ _ _) 1 k4 rfl rfl rfl rfl) ?_)|(refine ex rfl (ja1 (envG _ _ _ _ _ _) 1 k5 rfl rfl rfl rfl) ?_)|(refine sx ?_)));refine ja0 ?_;refine kl1 ?_
  refine regX [4] ?_;intro w0 A S0 f0;(repeat ((with_reducible show DR _ _ _ (_::_) _);first|(refine cx _ (envG _ _ _ _ _ _) rfl rfl rfl rfl rfl ?_ (hc:=by first|fail))|(refine ex rfl (jg1 rfl rfl rfl rfl rfl) ?_)|(refine ex rfl (jd5 rfl rfl rfl) ?_)|(refine ex rfl (ja1 (envG _ _ _ _ _ _) 1 k1 rfl rfl rfl rfl) ?_)|(refine ex rfl (ja1 (envG _ _ _ _ _ _) 1 k2 rfl rfl rfl rfl) ?_)|(refine ex rfl (ja1 (envG _ _ _ _ _ _) 1 k3 rfl rfl rfl rfl) ?_)|(refine ex rfl (ja1 (envG _ _ _ _ _ _) 1 k4 rfl rfl rfl rfl) ?_)|(refine ex rfl (ja1 (envG _ _ _ _ _ _) 1 k5 rfl rfl rfl rfl) ?_)|(refine sx ?_)));refine ja0 ?_;refine kl1 ?_
  have hbt:bad=true:=by rw [← hB];simp
  subst hbt
  rw [hno (fun h=>hl h.2.1)]
  have hX:=And.intro jb0 (and_true)
  refine regX [4,37] ?_;intro w0 A S0 f0;(repeat ((with_reducible show DR _ _ _ (_::_) _);first|(refine cx _ (envG _ _ _ _ _ _) rfl rfl rfl rfl rfl ?_ (hc:=by first|fail))|(refine ex rfl (jg1 rfl rfl rfl rfl rfl) ?_)|(refine ex rfl (jd5 rfl rfl rfl) ?_)|(refine ex rfl (ja1 (envG _ _ _ _ _ _) 1 k1 rfl rfl rfl rfl) ?_)|(refine ex rfl (ja1 (envG _ _ _ _ _ _) 1 k2 rfl rfl rfl rfl) ?_)|(refine ex rfl (ja1 (envG _ _ _ _ _ _) 1 k3 rfl rfl rfl rfl) ?_)|(refine ex rfl (ja1 (envG _ _ _ _ _ _) 1 k4 rfl rfl rfl rfl) ?_)|(refine ex rfl (ja1 (envG _ _ _ _ _ _) 1 k5 rfl rfl rfl rfl) ?_)|(refine sx ?_)));refine ja0 ?_;refine kl1 ?_
  refine iftx ?_
  refine regX [2,3] ?_;intro w0 A S0 f0;(repeat ((with_reducible show DR _ _ _ (_::_) _);first|(refine cx _ (envG _ _ _ _ _ _) rfl rfl rfl rfl rfl ?_ (hc:=by first|fail))|(refine ex rfl (jg1 rfl rfl rfl rfl rfl) ?_)|(refine ex rfl (jd5 rfl rfl rfl) ?_)|(refine ex rfl (ja1 (envG _ _ _ _ _ _) 1 k1 rfl rfl rfl rfl) ?_)|(refine ex rfl (ja1 (envG _ _ _ _ _ _) 1 k2 rfl rfl rfl rfl) ?_)|(refine ex rfl (ja1 (envG _ _ _ _ _ _) 1 k3 rfl rfl rfl rfl) ?_)|(refine ex rfl (ja1 (envG _ _ _ _ _ _) 1 k4 rfl rfl rfl rfl) ?_)|(refine ex rfl (ja1 (envG _ _ _ _ _ _) 1 k5 rfl rfl rfl rfl) ?_)|(refine sx ?_)));refine ja0 ?_;refine kl1 ?_
  exact retF
def wldW (c:Su):List (List UInt8):=[wldT,dgE c.sv,dgE (c.li:Int),dgE c.hi,dgE c.sz,dgE c.gap]
def wldO (c:Su):List UInt8:=if mT<c.li then [] else jj8 (wldW c)
theorem qd0 (c:Su):(jw (wldW c)).length≤20000:=by
 have a1:=jm1 c.sv
 have a2:=jm1 (c.li:Int)
 have a3:=jm1 c.hi
 have a4:=jm1 c.sz
 have a5:=jm1 c.gap
 have w1:wldT.length≤8:=by decide
 simp only [wldW,jw,List.flatMap_cons,List.flatMap_nil,List.length_append,List.length_cons,List.length_nil]
 omega
theorem wld_ok {c:Su}:okS c↔wldO c≠[]:=by
 unfold wldO okS
 by_cases hl:mT<c.li
 ·rw [if_pos hl]
  exact ⟨fun h=>absurd h.2.1 (by omega),fun h=>absurd rfl h⟩
 ·rw [if_neg hl]
  have h2:okN (c.li:Int)=true:=jv6 (by omega)
  unfold wldW
  rw [ji4 (w:=wldT) (by decide)]
  have h3:c.li≤mT:=by omega
  simp [ji6,ji3,h2,h3]
theorem ko8 {c:Su} (h:okS c):wldO c=inW (wsS c):=by
 have h0:=wld_ok.1 h
 obtain ⟨a,b,d,e,f⟩:=h
 unfold wldO at *
 rw [if_neg (by omega)] at *
 have hm:[] ∉ wldW c:=fun e=>h0 (kd5 e)
 rw [kd4 hm]
 have e1:∀n:Int,okN n=true→dgE n=dgI n:=fun n h=>if_pos h
 unfold wldW
 rw [e1 _ a,e1 _ (jv6 b),e1 _ d,e1 _ e,e1 _ f]
 rfl
set_option maxHeartbeats 8000000 in
theorem kx1 (c:Su) (h:sepB c):PC (ja4 Tryd.prog) 47 [sepD c] (strD (wldO c)):=by
 obtain ⟨h1,h2,h3,h4,h5⟩:=h
 have kj:=kl5 (wldW c) (by have:=qd0 c;omega) (by unfold wldW;exact Nat.le_of_ble_eq_true rfl)
 unfold wldO
 rw [jc6]
 obtain ⟨sv,li,hi,sz,gap⟩:=c
 simp only at *
 by_cases hl:mT<li
 ·have e0:decide ((1099511627776:Int)<(li:Int))=true:=decide_eq_true (by unfold mT at hl;omega)
  rw [if_pos hl]
  have hX:=and_true;refine pcx Tryd.func47 rfl Tryd.ntmps47 Tryd.results47 rfl ?_;intro w0 A
  have hX:=And.intro e0 (and_true)
  refine rgx [1] ?_
  refine rgx [1,5] ?_
  refine iftx ?_
  refine rgx [2] ?_
  exact retF
 ·have e0:decide ((1099511627776:Int)<(li:Int))=false:=decide_eq_false (by unfold mT at hl;omega)
  rw [if_neg hl]
  have hli:(li:Int)≤1099511627776:=by unfold mT at hl;omega
  have k1:=jc4 sv h1
  have k2:=jc4 (li:Int) ⟨by omega,by omega⟩
  have k3:=jc4 hi h3
  have k4:=jc4 sz h4
  have k5:=jc4 gap h5
  unfold wldW at *
  simp only at kj ⊢
  generalize dgE sv=g1 at *
  generalize dgE (li:Int)=g2 at *
  generalize dgE hi=g3 at *
  generalize dgE sz=g4 at *
  generalize dgE gap=g5 at *
  have hX:=and_true;refine pcx Tryd.func47 rfl Tryd.ntmps47 Tryd.results47 rfl ?_;intro w0 A
  have hX:=And.intro e0 (and_true)
  refine regX [1] ?_;intro w0 A S0 f0;(repeat ((with_reducible show DR _ _ _ (_::_) _);first|(refine cx _ (envG _ _ _ _ _ _) rfl rfl rfl rfl rfl ?_ (hc:=by first|exact k1|exact k2|exact k3|exact k4|exact k5))  | (refine sx ?_)));refine ja0 ?_;refine kl1 ?_
  refine regX [1,5] ?_;intro w0 A S0 f0;(repeat ((with_reducible show DR _ _ _ (_::_) _);first|(refine cx _ (envG _ _ _ _ _ _) rfl rfl rfl rfl rfl ?_ (hc:=by first|exact k1|exact k2|exact k3|exact k4|exact k5))  | (refine sx ?_)));refine ja0 ?_;refine kl1 ?_
  refine iffs ?_
  (repeat refine ja7 ?_);refine jm0 [2] (by kernel_rfl) ?_;intro w0 A S0 f0;(repeat ((with_reducible show DRq _ _ _ (_::_) _);first|(refine cxq _ (envG _ _ _ _ _ _) rfl rfl rfl rfl rfl ?_ (hc:=by first|exact k1|exact k2|exact k3|exact k4|exact k5))| (refine clxq (d:=strD (jj8 [wldT,g1,g2,g3,g4,g5])) (xs:=[.sl [0,1,2,3,4,5] 0 (fun i=>[strD wldT,strD g1,strD g2,strD g3,strD g4,strD g5].getD i .dead)]) (ys:=[.sl [wldT,g1,g2,g3,g4,g5] [] strD]) _ (envG _ _ _ _ _ _) (.cons (jj9 (W:=[wldT,g1,g2,g3,g4,g5]) (l:=[0,1,2,3,4,5]) (xs:=[strD wldT,strD g1,strD g2,strD g3,strD g4,strD g5]) rfl rfl).le .nil) kj rfl rfl rfl rfl rfl rfl ?_)|(refine sxq ?_)));refine jk2 ?_;refine kl1 ?_
  exact retF
end Go.Proofs.YtlhdeplkmghniaaDoor
