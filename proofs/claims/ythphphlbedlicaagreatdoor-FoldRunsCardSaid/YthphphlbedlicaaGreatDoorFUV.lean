/- Fold: the next event (package fold). -/
import Derived.Test.YthphphlbedlicaaGreatDoorFPD
import Derived.Test.YthphphlbedlicaaGreatDoorFUU
import Derived.Test.YthphphlbedlicaaGreatDoorFUI
import Derived.Test.YthphphlbedlicaaGreatDoorFVH
import Derived.Test.YthphphlbedlicaaGreatDoorFQD
import Derived.Test.YthphphlbedlicaaGreatDoorFPJ
set_option linter.unusedSimpArgs false
set_option linter.unusedVariables false
set_option maxRecDepth 10000
namespace Go.Proofs.YthphphlbedlicaaGreatDoor
open Go.RowKit
theorem ve9 {h:List (Option Bk)}:Fin h (.cons (.v (.slice none 0 0)) (.cons (.v (.int .i64 0)) (.cons (.v (.int .i64 0)) (.cons (.v (.int .i64 0)) .nil)))) (rmD rmz):=by
 refine kj5 rfl rfl rfl fun i hi=>?_
 have hi:i<4:=hi
 rcases i with _|_|_|_|i
 ·exact jv5 (z:=clz) (e:=clD)
 ·exact jf9 (d:=iD 0) rfl
 ·exact jf9 (d:=iD 0) rfl
 ·exact jf9 (d:=iD 0) rfl
 ·omega
theorem kt0 {h:List (Option Bk)}{w:Int}:Fin h (.tup (.cons (.cons (.v (.slice none 0 0)) (.cons (.v (.int .i64 0)) (.cons (.v (.int .i64 0)) (.cons (.v (.int .i64 0)) .nil)))) (.cons (.v (.int .i64 w)) .nil))) (rmE (rmz,w)):=jh9 (.cons rfl rfl ve9 (.cons rfl rfl (jd0 rfl) .nil))
theorem ji3 (r:Rm):ja4 (rmD r)=true:=rfl
set_option maxHeartbeats 8000000 in
theorem vf3 (r:Rm) (e:Ev) (hr:e.r.length≤140737488351232) (hb:e.b.length≤140737488351232) (h1:0≤r.e) (h2:r.e≤4096):PH (ja0 Tryz.prog) 22 [.ptr 0 0,evtD e] [some (.one (rmD r))] (.tup .nil) [some (.one (rmD (trnR r e)))]:=by
 have kr:=kw3 e.r hr
 have kn:=qa4 e.b hb
 unfold trnR
 unfold osD at kr
 unfold cuD at kn
 generalize (srv 2 e.r).1=a at *
 generalize (srv 2 e.r).2=a2 at *
 generalize (numO 63 e.b).1=b at *
 generalize (numO 63 e.b).2=b2 at *
 have kr:PC (ja0 Tryz.prog) 48 [.v (.string (B e.r))] (.tup (.cons (.v (.int .i64 a)) (.cons (.v (.bool a2)) .nil))):=kr
 have kn:PC (ja0 Tryz.prog) 49 [.v (.string (B e.b))] (.tup (.cons (.v (.int .i64 (b:Int))) (.cons (.v (.bool b2)) .nil))):=kn
 by_cases c1:e.k=1
 ·have d1:decide ((e.k:Int)=1)=true:=decide_eq_true (by omega)
  rw [if_pos c1]
  have hX:=and_true;refine jp8 Tryz.func22 rfl Tryz.ntmps22 Tryz.results22 rfl (by simp only [jf2,Nat.reduceAdd,u32D,u8D,iD,bD,strD,jc3,jc5,jb9,jb8,jc0,jc2,jc1,jc7,jc6];exact rfl) ?_;intro w0 A bs0
  have hX:=And.intro je8 (And.intro ja3 (d1))
  have hK:=And.intro (kr) trivial;refine rgx [0,3] ?_
  refine rgx [0,3,5] ?_
  refine rgx [0,3,5,6] ?_
  refine iftx ?_
  refine rgx [] ?_
  refine retx ?_;(try dsimp only [outV,ja5])
  exact FinH.of_weak rfl (WeakX.takeP 1 rfl rfl rfl rfl)
 have d1:decide ((e.k:Int)=1)=false:=decide_eq_false (by omega)
 rw [if_neg c1]
 by_cases c8:e.k=8
 ·have d8:decide ((e.k:Int)=8)=true:=decide_eq_true (by omega)
  rw [if_pos c8]
  have hX:=and_true;refine jp8 Tryz.func22 rfl Tryz.ntmps22 Tryz.results22 rfl (by simp only [jf2,Nat.reduceAdd,u32D,u8D,iD,bD,strD,jc3,jc5,jb9,jb8,jc0,jc2,jc1,jc7,jc6];exact rfl) ?_;intro w0 A bs0
  have hX:=And.intro je8 (And.intro ja3 (And.intro d1 (d8)))
  have hK:=And.intro (kn) trivial;refine rgx [0,3] ?_
  refine rgx [0,3,5] ?_
  refine rgx [0,3,5,6] ?_
  refine iffx ?_
  refine rgx [0,3,17] ?_
  refine iftx ?_
  refine rgx [0] ?_
  refine rgx [] ?_
  refine retx ?_;(try dsimp only [outV,ja5])
  exact FinH.of_weak rfl (WeakX.takeP 1 rfl rfl rfl rfl)
 ·have d8:decide ((e.k:Int)=8)=false:=decide_eq_false (by omega)
  rw [if_neg c8]
  have hX:=and_true;refine jp8 Tryz.func22 rfl Tryz.ntmps22 Tryz.results22 rfl (by simp only [jf2,Nat.reduceAdd,u32D,u8D,iD,bD,strD,jc3,jc5,jb9,jb8,jc0,jc2,jc1,jc7,jc6];exact rfl) ?_;intro w0 A bs0
  have hX:=And.intro je8 (And.intro ja3 (And.intro d1 (d8)))
  refine rgx [0,3] ?_
  refine rgx [0,3,5] ?_
  refine rgx [0,3,5,6] ?_
  refine iffx ?_
  refine rgx [0,3,17] ?_
  refine iffs ?_
  refine retx ?_;(try dsimp only [outV,ja5])
  exact FinH.of_weak rfl (WeakX.takeP 1 rfl rfl rfl rfl)
theorem qc3 (r:Rm) (e:Ev) (hr:e.r.length≤140737488351232) (hb:e.b.length≤140737488351232) (h1:0≤r.e) (h2:r.e≤4096):PM (ja0 Tryz.prog) 22 (rmD r) [evtD e] (rmD (trnR r e)) (.tup .nil):=kq4 (vf3 r e hr hb h1 h2) rfl rfl
set_option maxHeartbeats 16000000 in
theorem kk7 (r:Rm) (e:Ev) (hs:ccB r.s) (he:evB e):PC (ja0 Tryz.prog) 5 [rmD r,evtD e] (rmE (nxtR r e)):=by
 have k0:=ks9 r hs
 unfold nxtR
 by_cases hc:chkR r=0
 rotate_left
 ·rw [if_pos hc]
  rw [kr7 hc] at k0
  have hX:=and_true;refine pcx Tryz.func5 rfl Tryz.ntmps5 Tryz.results5 rfl ?_;intro w0 A
  have hX:=And.intro jb3 (And.intro jb7 (And.intro ja3 (je8)))
  have hK:=And.intro (k0) trivial;refine rgx [2,3,4] ?_
  refine rgx [2,3,4,6] ?_
  refine rgx [2,3,4,6,14] ?_
  refine iftx ?_
  refine rgx [4,5] ?_
  refine rX ?_;refine retx ?_;(try dsimp only [outV,ja5])
  exact kt0
 rw [if_neg (fun h=>h hc)]
 rw [hc] at k0
 have hb:=ke2 hc
 have k1:=qh8 r.s e hs he
 by_cases ha:alwE r.s e=0
 rotate_left
 ·rw [if_pos ha]
  have d1:decide (alwE r.s e=0)=false:=decide_eq_false ha
  generalize alwE r.s e=x at *
  have hX:=and_true;refine pcx Tryz.func5 rfl Tryz.ntmps5 Tryz.results5 rfl ?_;intro w0 A
  have hX:=And.intro jb3 (And.intro jb7 (And.intro je8 (d1)))
  have hK:=And.intro (k0) (And.intro (k1) trivial);refine rgx [2,3,4] ?_
  refine rgx [2,3,4,6] ?_
  refine rgx [2,3,4,6,14] ?_
  refine iffs ?_
  refine rgx [2,3,4,7] ?_
  refine rgx [2,3,4,7,22] ?_
  refine iftx ?_
  refine rgx [4,5] ?_
  exact retF
 rw [if_neg (fun h=>h ha)]
 have ho:=jk3 (ju0 (ka9 ha).2.1)
 rw [ha] at k1
 by_cases hn:r.n=4096
 ·have d2:decide (r.n=4096)=true:=decide_eq_true hn
  rw [if_pos hn]
  have hX:=and_true;refine pcx Tryz.func5 rfl Tryz.ntmps5 Tryz.results5 rfl ?_;intro w0 A
  have hX:=And.intro jb3 (And.intro jb7 (And.intro je8 (d2)))
  have hK:=And.intro (k0) (And.intro (k1) trivial);refine rgx [2,3,4] ?_
  refine rgx [2,3,4,6] ?_
  refine rgx [2,3,4,6,14] ?_
  refine iffs ?_
  refine rgx [2,3,4,7] ?_
  refine rgx [2,3,4,7,22] ?_
  refine iffs ?_
  refine rgx [2,3,4,27] ?_
  refine iftx ?_
  refine rgx [4,5] ?_
  exact retF
 have d2:decide (r.n=4096)=false:=decide_eq_false hn
 rw [if_neg hn]
 have ks:PC (ja0 Tryz.prog) 20 [.v (.int .u8 (e.k:Int))] (bD (stB e.k)):=ks7 e.k
 cases hst:stB e.k
 ·rw [hst] at ks
  rw [if_neg (by decide)]
  have kt:=qc3 ⟨r.s,r.h,r.e,r.n+1⟩ e he.1 (by omega) hb.2.2.2.1 (by show r.e≤4096;omega)
  generalize trnR ⟨r.s,r.h,r.e,r.n+1⟩ e=z at *
  have hX:=and_true;refine pcx Tryz.func5 rfl Tryz.ntmps5 Tryz.results5 rfl ?_;intro w0 A
  have hX:=And.intro jb3 (And.intro jb7 (And.intro ji3 (And.intro je8 (And.intro ja3 (d2)))))
  refine regX [2,3,4] ?_;intro w0 A S0 f0;(repeat ((with_reducible show DR _ _ _ (_::_) _);first|(refine cx _ (envG _ _ _ _ _ _) rfl rfl rfl rfl rfl ?_ (hc:=by first|exact k0|exact k1|exact ks))|(refine ex rfl (jb6 (envG _ _ _ _ _ _) rfl rfl rfl (hc:=by first|exact kt)) ?_)|(refine sx ?_)));refine ja1 ?_;refine kl1 ?_
  refine regX [2,3,4,6] ?_;intro w0 A S0 f0;(repeat ((with_reducible show DR _ _ _ (_::_) _);first|(refine cx _ (envG _ _ _ _ _ _) rfl rfl rfl rfl rfl ?_ (hc:=by first|exact k0|exact k1|exact ks))|(refine ex rfl (jb6 (envG _ _ _ _ _ _) rfl rfl rfl (hc:=by first|exact kt)) ?_)|(refine sx ?_)));refine ja1 ?_;refine kl1 ?_
  refine regX [2,3,4,6,14] ?_;intro w0 A S0 f0;(repeat ((with_reducible show DR _ _ _ (_::_) _);first|(refine cx _ (envG _ _ _ _ _ _) rfl rfl rfl rfl rfl ?_ (hc:=by first|exact k0|exact k1|exact ks))|(refine ex rfl (jb6 (envG _ _ _ _ _ _) rfl rfl rfl (hc:=by first|exact kt)) ?_)|(refine sx ?_)));refine ja1 ?_;refine kl1 ?_
  refine iffs ?_
  refine regX [2,3,4,7] ?_;intro w0 A S0 f0;(repeat ((with_reducible show DR _ _ _ (_::_) _);first|(refine cx _ (envG _ _ _ _ _ _) rfl rfl rfl rfl rfl ?_ (hc:=by first|exact k0|exact k1|exact ks))|(refine ex rfl (jb6 (envG _ _ _ _ _ _) rfl rfl rfl (hc:=by first|exact kt)) ?_)|(refine sx ?_)));refine ja1 ?_;refine kl1 ?_
  refine regX [2,3,4,7,22] ?_;intro w0 A S0 f0;(repeat ((with_reducible show DR _ _ _ (_::_) _);first|(refine cx _ (envG _ _ _ _ _ _) rfl rfl rfl rfl rfl ?_ (hc:=by first|exact k0|exact k1|exact ks))|(refine ex rfl (jb6 (envG _ _ _ _ _ _) rfl rfl rfl (hc:=by first|exact kt)) ?_)|(refine sx ?_)));refine ja1 ?_;refine kl1 ?_
  refine iffs ?_
  refine regX [2,3,4,27] ?_;intro w0 A S0 f0;(repeat ((with_reducible show DR _ _ _ (_::_) _);first|(refine cx _ (envG _ _ _ _ _ _) rfl rfl rfl rfl rfl ?_ (hc:=by first|exact k0|exact k1|exact ks))|(refine ex rfl (jb6 (envG _ _ _ _ _ _) rfl rfl rfl (hc:=by first|exact kt)) ?_)|(refine sx ?_)));refine ja1 ?_;refine kl1 ?_
  refine iffs ?_
  refine regX [2,3,4,8] ?_;intro w0 A S0 f0;(repeat ((with_reducible show DR _ _ _ (_::_) _);first|(refine cx _ (envG _ _ _ _ _ _) rfl rfl rfl rfl rfl ?_ (hc:=by first|exact k0|exact k1|exact ks))|(refine ex rfl (jb6 (envG _ _ _ _ _ _) rfl rfl rfl (hc:=by first|exact kt)) ?_)|(refine sx ?_)));refine ja1 ?_;refine kl1 ?_
  refine regX [2,3,4,8,32] ?_;intro w0 A S0 f0;(repeat ((with_reducible show DR _ _ _ (_::_) _);first|(refine cx _ (envG _ _ _ _ _ _) rfl rfl rfl rfl rfl ?_ (hc:=by first|exact k0|exact k1|exact ks))|(refine ex rfl (jb6 (envG _ _ _ _ _ _) rfl rfl rfl (hc:=by first|exact kt)) ?_)|(refine sx ?_)));refine ja1 ?_;refine kl1 ?_
  refine iffs ?_
  refine regX [3,4,8] ?_;intro w0 A S0 f0;(repeat ((with_reducible show DR _ _ _ (_::_) _);first|(refine cx _ (envG _ _ _ _ _ _) rfl rfl rfl rfl rfl ?_ (hc:=by first|exact k0|exact k1|exact ks))|(refine ex rfl (jb6 (envG _ _ _ _ _ _) rfl rfl rfl (hc:=by first|exact kt)) ?_)|(refine sx ?_)));refine ja1 ?_;refine kl1 ?_
  refine regX [4,8] ?_;intro w0 A S0 f0;(repeat ((with_reducible show DR _ _ _ (_::_) _);first|(refine cx _ (envG _ _ _ _ _ _) rfl rfl rfl rfl rfl ?_ (hc:=by first|exact k0|exact k1|exact ks))|(refine ex rfl (jb6 (envG _ _ _ _ _ _) rfl rfl rfl (hc:=by first|exact kt)) ?_)|(refine sx ?_)));refine ja1 ?_;refine kl1 ?_
  refine regX [4,5] ?_;intro w0 A S0 f0;(repeat ((with_reducible show DR _ _ _ (_::_) _);first|(refine cx _ (envG _ _ _ _ _ _) rfl rfl rfl rfl rfl ?_ (hc:=by first|exact k0|exact k1|exact ks))|(refine ex rfl (jb6 (envG _ _ _ _ _ _) rfl rfl rfl (hc:=by first|exact kt)) ?_)|(refine sx ?_)));refine ja1 ?_;refine kl1 ?_
  exact retF
 ·rw [hst] at ks
  rw [if_pos rfl]
  have kw:=vr1 r.s e hs he
  have kt:=qc3 ⟨(setC r.s e).1,r.h,r.e,r.n+1⟩ e he.1 (by omega) hb.2.2.2.1 (by show r.e≤4096;omega)
  unfold scD at kw
  generalize (setC r.s e).1=t at *
  generalize (setC r.s e).2=w at *
  by_cases hw:w=0
  ·have d3:decide (w=0)=true:=decide_eq_true hw
   rw [if_pos hw]
   generalize trnR ⟨t,r.h,r.e,r.n+1⟩ e=z at *
   have hX:=and_true;refine pcx Tryz.func5 rfl Tryz.ntmps5 Tryz.results5 rfl ?_;intro w0 A
   have hX:=And.intro jb3 (And.intro jb7 (And.intro ji3 (And.intro je8 (And.intro ja3 (And.intro d2 (d3))))))
   refine regX [2,3,4] ?_;intro w0 A S0 f0;(repeat ((with_reducible show DR _ _ _ (_::_) _);first|(refine cx _ (envG _ _ _ _ _ _) rfl rfl rfl rfl rfl ?_ (hc:=by first|exact k0|exact k1|exact ks|exact kw))|(refine ex rfl (jb6 (envG _ _ _ _ _ _) rfl rfl rfl (hc:=by first|exact kt)) ?_)|(refine sx ?_)));refine ja1 ?_;refine kl1 ?_
   refine regX [2,3,4,6] ?_;intro w0 A S0 f0;(repeat ((with_reducible show DR _ _ _ (_::_) _);first|(refine cx _ (envG _ _ _ _ _ _) rfl rfl rfl rfl rfl ?_ (hc:=by first|exact k0|exact k1|exact ks|exact kw))|(refine ex rfl (jb6 (envG _ _ _ _ _ _) rfl rfl rfl (hc:=by first|exact kt)) ?_)|(refine sx ?_)));refine ja1 ?_;refine kl1 ?_
   refine regX [2,3,4,6,14] ?_;intro w0 A S0 f0;(repeat ((with_reducible show DR _ _ _ (_::_) _);first|(refine cx _ (envG _ _ _ _ _ _) rfl rfl rfl rfl rfl ?_ (hc:=by first|exact k0|exact k1|exact ks|exact kw))|(refine ex rfl (jb6 (envG _ _ _ _ _ _) rfl rfl rfl (hc:=by first|exact kt)) ?_)|(refine sx ?_)));refine ja1 ?_;refine kl1 ?_
   refine iffs ?_
   refine regX [2,3,4,7] ?_;intro w0 A S0 f0;(repeat ((with_reducible show DR _ _ _ (_::_) _);first|(refine cx _ (envG _ _ _ _ _ _) rfl rfl rfl rfl rfl ?_ (hc:=by first|exact k0|exact k1|exact ks|exact kw))|(refine ex rfl (jb6 (envG _ _ _ _ _ _) rfl rfl rfl (hc:=by first|exact kt)) ?_)|(refine sx ?_)));refine ja1 ?_;refine kl1 ?_
   refine regX [2,3,4,7,22] ?_;intro w0 A S0 f0;(repeat ((with_reducible show DR _ _ _ (_::_) _);first|(refine cx _ (envG _ _ _ _ _ _) rfl rfl rfl rfl rfl ?_ (hc:=by first|exact k0|exact k1|exact ks|exact kw))|(refine ex rfl (jb6 (envG _ _ _ _ _ _) rfl rfl rfl (hc:=by first|exact kt)) ?_)|(refine sx ?_)));refine ja1 ?_;refine kl1 ?_
   refine iffs ?_
   refine regX [2,3,4,27] ?_;intro w0 A S0 f0;(repeat ((with_reducible show DR _ _ _ (_::_) _);first|(refine cx _ (envG _ _ _ _ _ _) rfl rfl rfl rfl rfl ?_ (hc:=by first|exact k0|exact k1|exact ks|exact kw))|(refine ex rfl (jb6 (envG _ _ _ _ _ _) rfl rfl rfl (hc:=by first|exact kt)) ?_)|(refine sx ?_)));refine ja1 ?_;refine kl1 ?_
   refine iffs ?_
   refine regX [2,3,4,8] ?_;intro w0 A S0 f0;(repeat ((with_reducible show DR _ _ _ (_::_) _);first|(refine cx _ (envG _ _ _ _ _ _) rfl rfl rfl rfl rfl ?_ (hc:=by first|exact k0|exact k1|exact ks|exact kw))|(refine ex rfl (jb6 (envG _ _ _ _ _ _) rfl rfl rfl (hc:=by first|exact kt)) ?_)|(refine sx ?_)));refine ja1 ?_;refine kl1 ?_
   refine regX [2,3,4,8,32] ?_;intro w0 A S0 f0;(repeat ((with_reducible show DR _ _ _ (_::_) _);first|(refine cx _ (envG _ _ _ _ _ _) rfl rfl rfl rfl rfl ?_ (hc:=by first|exact k0|exact k1|exact ks|exact kw))|(refine ex rfl (jb6 (envG _ _ _ _ _ _) rfl rfl rfl (hc:=by first|exact kt)) ?_)|(refine sx ?_)));refine ja1 ?_;refine kl1 ?_
   refine iftx ?_
   refine regX [2,3,4,8,9,10] ?_;intro w0 A S0 f0;(repeat ((with_reducible show DR _ _ _ (_::_) _);first|(refine cx _ (envG _ _ _ _ _ _) rfl rfl rfl rfl rfl ?_ (hc:=by first|exact k0|exact k1|exact ks|exact kw))|(refine ex rfl (jb6 (envG _ _ _ _ _ _) rfl rfl rfl (hc:=by first|exact kt)) ?_)|(refine sx ?_)));refine ja1 ?_;refine kl1 ?_
   refine regX [2,3,4,8,9,10,41] ?_;intro w0 A S0 f0;(repeat ((with_reducible show DR _ _ _ (_::_) _);first|(refine cx _ (envG _ _ _ _ _ _) rfl rfl rfl rfl rfl ?_ (hc:=by first|exact k0|exact k1|exact ks|exact kw))|(refine ex rfl (jb6 (envG _ _ _ _ _ _) rfl rfl rfl (hc:=by first|exact kt)) ?_)|(refine sx ?_)));refine ja1 ?_;refine kl1 ?_
   refine iffs ?_
   refine regX [3,4,8] ?_;intro w0 A S0 f0;(repeat ((with_reducible show DR _ _ _ (_::_) _);first|(refine cx _ (envG _ _ _ _ _ _) rfl rfl rfl rfl rfl ?_ (hc:=by first|exact k0|exact k1|exact ks|exact kw))|(refine ex rfl (jb6 (envG _ _ _ _ _ _) rfl rfl rfl (hc:=by first|exact kt)) ?_)|(refine sx ?_)));refine ja1 ?_;refine kl1 ?_
   refine regX [3,4,8] ?_;intro w0 A S0 f0;(repeat ((with_reducible show DR _ _ _ (_::_) _);first|(refine cx _ (envG _ _ _ _ _ _) rfl rfl rfl rfl rfl ?_ (hc:=by first|exact k0|exact k1|exact ks|exact kw))|(refine ex rfl (jb6 (envG _ _ _ _ _ _) rfl rfl rfl (hc:=by first|exact kt)) ?_)|(refine sx ?_)));refine ja1 ?_;refine kl1 ?_
   refine regX [4,8] ?_;intro w0 A S0 f0;(repeat ((with_reducible show DR _ _ _ (_::_) _);first|(refine cx _ (envG _ _ _ _ _ _) rfl rfl rfl rfl rfl ?_ (hc:=by first|exact k0|exact k1|exact ks|exact kw))|(refine ex rfl (jb6 (envG _ _ _ _ _ _) rfl rfl rfl (hc:=by first|exact kt)) ?_)|(refine sx ?_)));refine ja1 ?_;refine kl1 ?_
   refine regX [4,5] ?_;intro w0 A S0 f0;(repeat ((with_reducible show DR _ _ _ (_::_) _);first|(refine cx _ (envG _ _ _ _ _ _) rfl rfl rfl rfl rfl ?_ (hc:=by first|exact k0|exact k1|exact ks|exact kw))|(refine ex rfl (jb6 (envG _ _ _ _ _ _) rfl rfl rfl (hc:=by first|exact kt)) ?_)|(refine sx ?_)));refine ja1 ?_;refine kl1 ?_
   exact retF
  ·have d3:decide (w=0)=false:=decide_eq_false hw
   rw [if_neg hw]
   have hX:=and_true;refine pcx Tryz.func5 rfl Tryz.ntmps5 Tryz.results5 rfl ?_;intro w0 A
   have hX:=And.intro jb3 (And.intro jb7 (And.intro ji3 (And.intro je8 (And.intro ja3 (And.intro d2 (d3))))))
   have hK:=And.intro (k0) (And.intro (k1) (And.intro (ks) (And.intro (kw) trivial)));refine rgx [2,3,4] ?_
   refine rgx [2,3,4,6] ?_
   refine rgx [2,3,4,6,14] ?_
   refine iffs ?_
   refine rgx [2,3,4,7] ?_
   refine rgx [2,3,4,7,22] ?_
   refine iffs ?_
   refine rgx [2,3,4,27] ?_
   refine iffs ?_
   refine rgx [2,3,4,8] ?_
   refine rgx [2,3,4,8,32] ?_
   refine iftx ?_
   refine rgx [2,3,4,8,9,10] ?_
   refine rgx [2,3,4,8,9,10,41] ?_
   refine iftx ?_
   refine rgx [4,5] ?_
   exact retF
end Go.Proofs.YthphphlbedlicaaGreatDoor
