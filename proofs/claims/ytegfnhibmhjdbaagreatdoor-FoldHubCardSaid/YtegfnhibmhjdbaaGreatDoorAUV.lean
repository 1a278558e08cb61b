/- Fold: the next event (package fold). -/
import Derived.Test.YtegfnhibmhjdbaaGreatDoorAPD
import Derived.Test.YtegfnhibmhjdbaaGreatDoorAUU
import Derived.Test.YtegfnhibmhjdbaaGreatDoorAUI
import Derived.Test.YtegfnhibmhjdbaaGreatDoorAVJ
import Derived.Test.YtegfnhibmhjdbaaGreatDoorAQD
import Derived.Test.YtegfnhibmhjdbaaGreatDoorAPJ
set_option linter.unusedSimpArgs false
set_option linter.unusedVariables false
set_option maxRecDepth 10000
namespace Go.Proofs.YtegfnhibmhjdbaaGreatDoor
open Go.RowKit
theorem vb4 {h:List (Option Bk)}:Fin h (.cons (.v (.slice none 0 0)) (.cons (.v (.int .i64 0)) (.cons (.v (.int .i64 0)) (.cons (.v (.int .i64 0)) .nil)))) (rmD rmz):=by
 refine kj3 rfl rfl rfl fun i hi=>?_
 have hi:i<4:=hi
 rcases i with _|_|_|_|i
 ·exact jv5 (z:=clz) (e:=clD)
 ·exact jg1 (d:=iD 0) rfl
 ·exact jg1 (d:=iD 0) rfl
 ·exact jg1 (d:=iD 0) rfl
 ·omega
theorem kt1 {h:List (Option Bk)}{w:Int}:Fin h (.tup (.cons (.cons (.v (.slice none 0 0)) (.cons (.v (.int .i64 0)) (.cons (.v (.int .i64 0)) (.cons (.v (.int .i64 0)) .nil)))) (.cons (.v (.int .i64 w)) .nil))) (rmE (rmz,w)):=ji1 (.cons rfl rfl vb4 (.cons rfl rfl (ja2 rfl) .nil))
theorem ji8 (r:Rm):jb0 (rmD r)=true:=rfl
set_option maxHeartbeats 8000000 in
theorem vb9 (r:Rm) (e:Ev) (hr:e.r.length≤140737488351232) (hb:e.b.length≤140737488351232) (h1:0≤r.e) (h2:r.e≤4096):PH (ja6 Tryz.prog) 71 [.ptr 0 0,evtD e] [some (.one (rmD r))] (.tup .nil) [some (.one (rmD (trnR r e)))]:=by
 have kr:=kw1 e.r hr
 have kn:=jt5 e.b hb
 unfold trnR
 unfold osD at kr
 unfold cuD at kn
 generalize (srv 2 e.r).1=a at *
 generalize (srv 2 e.r).2=a2 at *
 generalize (numO 63 e.b).1=b at *
 generalize (numO 63 e.b).2=b2 at *
 have kr:PC (ja6 Tryz.prog) 37 [.v (.string (B e.r))] (.tup (.cons (.v (.int .i64 a)) (.cons (.v (.bool a2)) .nil))):=kr
 have kn:PC (ja6 Tryz.prog) 16 [.v (.string (B e.b))] (.tup (.cons (.v (.int .i64 (b:Int))) (.cons (.v (.bool b2)) .nil))):=kn
 by_cases c1:e.k=1
 ·have d1:decide ((e.k:Int)=1)=true:=decide_eq_true (by omega)
  rw [if_pos c1]
  have hX:=and_true;refine jq4 Tryz.func71 rfl Tryz.ntmps71 Tryz.results71 rfl (by simp only [jf2,Nat.reduceAdd,u32D,u8D,iD,bD,strD,jc7,jd0,jc3,jc2,jc4,jc6,jc5,jd2,jd1];exact rfl) ?_;intro w0 A bs0
  have hX:=And.intro jf0 (And.intro ja9 (d1))
  have hK:=And.intro (kr) trivial;(repeat refine ja0 ?_);refine rgx [0,3] ?_
  (repeat refine ja0 ?_);refine rgx [0,3,5] ?_
  (repeat refine ja0 ?_);refine ja5 ?_
  (repeat refine ja0 ?_);refine rgx [0,3,5,6] ?_
  (repeat refine ja0 ?_);refine iftx ?_
  (repeat refine ja0 ?_);refine rgx [] ?_
  refine retx ?_;(try dsimp only [outV,ja4])
  exact FinH.of_weak rfl (WeakX.takeP 1 rfl rfl rfl rfl)
 have d1:decide ((e.k:Int)=1)=false:=decide_eq_false (by omega)
 rw [if_neg c1]
 by_cases c8:e.k=8
 ·have d8:decide ((e.k:Int)=8)=true:=decide_eq_true (by omega)
  rw [if_pos c8]
  have hX:=and_true;refine jq4 Tryz.func71 rfl Tryz.ntmps71 Tryz.results71 rfl (by simp only [jf2,Nat.reduceAdd,u32D,u8D,iD,bD,strD,jc7,jd0,jc3,jc2,jc4,jc6,jc5,jd2,jd1];exact rfl) ?_;intro w0 A bs0
  have hX:=And.intro jf0 (And.intro ja9 (And.intro d1 (d8)))
  have hK:=And.intro (kn) trivial;(repeat refine ja0 ?_);refine rgx [0,3] ?_
  (repeat refine ja0 ?_);refine rgx [0,3,5] ?_
  (repeat refine ja0 ?_);refine ja5 ?_
  (repeat refine ja0 ?_);refine rgx [0,3,5,6] ?_
  (repeat refine ja0 ?_);refine iffx ?_
  (repeat refine ja0 ?_);refine rgx [0,3,17] ?_
  (repeat refine ja0 ?_);refine iftx ?_
  (repeat refine ja0 ?_);refine rgx [0] ?_
  (repeat refine ja0 ?_);refine rgx [] ?_
  refine retx ?_;(try dsimp only [outV,ja4])
  exact FinH.of_weak rfl (WeakX.takeP 1 rfl rfl rfl rfl)
 ·have d8:decide ((e.k:Int)=8)=false:=decide_eq_false (by omega)
  rw [if_neg c8]
  have hX:=and_true;refine jq4 Tryz.func71 rfl Tryz.ntmps71 Tryz.results71 rfl (by simp only [jf2,Nat.reduceAdd,u32D,u8D,iD,bD,strD,jc7,jd0,jc3,jc2,jc4,jc6,jc5,jd2,jd1];exact rfl) ?_;intro w0 A bs0
  have hX:=And.intro jf0 (And.intro ja9 (And.intro d1 (d8)))
  (repeat refine ja0 ?_);refine rgx [0,3] ?_
  (repeat refine ja0 ?_);refine rgx [0,3,5] ?_
  (repeat refine ja0 ?_);refine ja5 ?_
  (repeat refine ja0 ?_);refine rgx [0,3,5,6] ?_
  (repeat refine ja0 ?_);refine iffx ?_
  (repeat refine ja0 ?_);refine rgx [0,3,17] ?_
  (repeat refine ja0 ?_);refine iffx ?_
  (repeat refine ja0 ?_);refine ja1 ?_
  refine retx ?_;(try dsimp only [outV,ja4])
  exact FinH.of_weak rfl (WeakX.takeP 1 rfl rfl rfl rfl)
theorem qb5 (r:Rm) (e:Ev) (hr:e.r.length≤140737488351232) (hb:e.b.length≤140737488351232) (h1:0≤r.e) (h2:r.e≤4096):PM (ja6 Tryz.prog) 71 (rmD r) [evtD e] (rmD (trnR r e)) (.tup .nil):=kq5 (vb9 r e hr hb h1 h2) rfl rfl
set_option maxHeartbeats 16000000 in
theorem vb8 (r:Rm) (e:Ev) (hs:ccB r.s) (he:evB e):PC (ja6 Tryz.prog) 23 [rmD r,evtD e] (rmE (nxtR r e)):=by
 have k0:=vi8 r hs
 unfold nxtR
 by_cases hc:chkR r=0
 rotate_left
 ·rw [if_pos hc]
  rw [ks0 hc] at k0
  have hX:=and_true;refine pcx Tryz.func23 rfl Tryz.ntmps23 Tryz.results23 rfl ?_;intro w0 A
  have hX:=And.intro jb1 (And.intro jb6 (And.intro ja9 (jf0)))
  have hK:=And.intro (k0) trivial;(repeat refine ja0 ?_);refine rgx [2,3,4] ?_
  (repeat refine ja0 ?_);refine rgx [2,3,4,6] ?_
  (repeat refine ja0 ?_);refine rgx [2,3,4,6,14] ?_
  (repeat refine ja0 ?_);refine iftx ?_
  (repeat refine ja0 ?_);refine rgx [4,5] ?_
  (repeat refine ja0 ?_);refine ja3 ?_;refine retx ?_;(try dsimp only [outV,ja4])
  exact kt1
 rw [if_neg (fun h=>h hc)]
 rw [hc] at k0
 have hb:=ke0 hc
 have k1:=jh5 r.s e hs he
 by_cases ha:alwE r.s e=0
 rotate_left
 ·rw [if_pos ha]
  have d1:decide (alwE r.s e=0)=false:=decide_eq_false ha
  generalize alwE r.s e=x at *
  have hX:=and_true;refine pcx Tryz.func23 rfl Tryz.ntmps23 Tryz.results23 rfl ?_;intro w0 A
  have hX:=And.intro jb1 (And.intro jb6 (And.intro jf0 (d1)))
  have hK:=And.intro (k0) (And.intro (k1) trivial);(repeat refine ja0 ?_);refine rgx [2,3,4] ?_
  (repeat refine ja0 ?_);refine rgx [2,3,4,6] ?_
  (repeat refine ja0 ?_);refine rgx [2,3,4,6,14] ?_
  (repeat refine ja0 ?_);refine iffx ?_
  (repeat refine ja0 ?_);refine ja1 ?_
  (repeat refine ja0 ?_);refine rgx [2,3,4,7] ?_
  (repeat refine ja0 ?_);refine rgx [2,3,4,7,22] ?_
  (repeat refine ja0 ?_);refine iftx ?_
  (repeat refine ja0 ?_);refine rgx [4,5] ?_
  (repeat refine ja0 ?_);refine ja3 ?_;refine retx ?_;(try dsimp only [outV,ja4])
  exact ja2 rfl
 rw [if_neg (fun h=>h ha)]
 have ho:=jk3 (ju2 (jn1 ha).2.1)
 rw [ha] at k1
 by_cases hn:r.n=4096
 ·have d2:decide (r.n=4096)=true:=decide_eq_true hn
  rw [if_pos hn]
  have hX:=and_true;refine pcx Tryz.func23 rfl Tryz.ntmps23 Tryz.results23 rfl ?_;intro w0 A
  have hX:=And.intro jb1 (And.intro jb6 (And.intro jf0 (d2)))
  have hK:=And.intro (k0) (And.intro (k1) trivial);(repeat refine ja0 ?_);refine rgx [2,3,4] ?_
  (repeat refine ja0 ?_);refine rgx [2,3,4,6] ?_
  (repeat refine ja0 ?_);refine rgx [2,3,4,6,14] ?_
  (repeat refine ja0 ?_);refine iffx ?_
  (repeat refine ja0 ?_);refine ja1 ?_
  (repeat refine ja0 ?_);refine rgx [2,3,4,7] ?_
  (repeat refine ja0 ?_);refine rgx [2,3,4,7,22] ?_
  (repeat refine ja0 ?_);refine iffx ?_
  (repeat refine ja0 ?_);refine ja1 ?_
  (repeat refine ja0 ?_);refine rgx [2,3,4,27] ?_
  (repeat refine ja0 ?_);refine iftx ?_
  (repeat refine ja0 ?_);refine rgx [4,5] ?_
  (repeat refine ja0 ?_);refine ja3 ?_;refine retx ?_;(try dsimp only [outV,ja4])
  exact ja2 rfl
 have d2:decide (r.n=4096)=false:=decide_eq_false hn
 rw [if_neg hn]
 have ks:PC (ja6 Tryz.prog) 70 [.v (.int .u8 (e.k:Int))] (bD (stB e.k)):=ks9 e.k
 cases hst:stB e.k
 ·rw [hst] at ks
  rw [if_neg (by decide)]
  have kt:=qb5 ⟨r.s,r.h,r.e,r.n+1⟩ e he.1 (by omega) hb.2.2.2.1 (by show r.e≤4096;omega)
  generalize trnR ⟨r.s,r.h,r.e,r.n+1⟩ e=z at *
  have hX:=and_true;refine pcx Tryz.func23 rfl Tryz.ntmps23 Tryz.results23 rfl ?_;intro w0 A
  have hX:=And.intro jb1 (And.intro jb6 (And.intro ji8 (And.intro jf0 (And.intro ja9 (d2)))))
  (repeat refine ja0 ?_);refine ja8 [2,3,4] ?_;intro w0 A S0 f0;(repeat ((with_reducible show DR _ _ _ (_::_) _);first|(refine cx _ (envG _ _ _ _ _ _) rfl rfl rfl rfl rfl ?_ (hc:=by first|exact k0|exact k1|exact ks))|(refine ex rfl (jc1 (envG _ _ _ _ _ _) rfl rfl rfl (hc:=by first|exact kt)) ?_)|(refine sx ?_)));refine ja7 ?_;refine kl1 ?_
  (repeat refine ja0 ?_);refine ja8 [2,3,4,6] ?_;intro w0 A S0 f0;(repeat ((with_reducible show DR _ _ _ (_::_) _);first|(refine cx _ (envG _ _ _ _ _ _) rfl rfl rfl rfl rfl ?_ (hc:=by first|exact k0|exact k1|exact ks))|(refine ex rfl (jc1 (envG _ _ _ _ _ _) rfl rfl rfl (hc:=by first|exact kt)) ?_)|(refine sx ?_)));refine ja7 ?_;refine kl1 ?_
  (repeat refine ja0 ?_);refine ja8 [2,3,4,6,14] ?_;intro w0 A S0 f0;(repeat ((with_reducible show DR _ _ _ (_::_) _);first|(refine cx _ (envG _ _ _ _ _ _) rfl rfl rfl rfl rfl ?_ (hc:=by first|exact k0|exact k1|exact ks))|(refine ex rfl (jc1 (envG _ _ _ _ _ _) rfl rfl rfl (hc:=by first|exact kt)) ?_)|(refine sx ?_)));refine ja7 ?_;refine kl1 ?_
  (repeat refine ja0 ?_);refine iffx ?_
  (repeat refine ja0 ?_);refine ja1 ?_
  (repeat refine ja0 ?_);refine ja8 [2,3,4,7] ?_;intro w0 A S0 f0;(repeat ((with_reducible show DR _ _ _ (_::_) _);first|(refine cx _ (envG _ _ _ _ _ _) rfl rfl rfl rfl rfl ?_ (hc:=by first|exact k0|exact k1|exact ks))|(refine ex rfl (jc1 (envG _ _ _ _ _ _) rfl rfl rfl (hc:=by first|exact kt)) ?_)|(refine sx ?_)));refine ja7 ?_;refine kl1 ?_
  (repeat refine ja0 ?_);refine ja8 [2,3,4,7,22] ?_;intro w0 A S0 f0;(repeat ((with_reducible show DR _ _ _ (_::_) _);first|(refine cx _ (envG _ _ _ _ _ _) rfl rfl rfl rfl rfl ?_ (hc:=by first|exact k0|exact k1|exact ks))|(refine ex rfl (jc1 (envG _ _ _ _ _ _) rfl rfl rfl (hc:=by first|exact kt)) ?_)|(refine sx ?_)));refine ja7 ?_;refine kl1 ?_
  (repeat refine ja0 ?_);refine iffx ?_
  (repeat refine ja0 ?_);refine ja1 ?_
  (repeat refine ja0 ?_);refine ja8 [2,3,4,27] ?_;intro w0 A S0 f0;(repeat ((with_reducible show DR _ _ _ (_::_) _);first|(refine cx _ (envG _ _ _ _ _ _) rfl rfl rfl rfl rfl ?_ (hc:=by first|exact k0|exact k1|exact ks))|(refine ex rfl (jc1 (envG _ _ _ _ _ _) rfl rfl rfl (hc:=by first|exact kt)) ?_)|(refine sx ?_)));refine ja7 ?_;refine kl1 ?_
  (repeat refine ja0 ?_);refine iffx ?_
  (repeat refine ja0 ?_);refine ja1 ?_
  (repeat refine ja0 ?_);refine ja8 [2,3,4,8] ?_;intro w0 A S0 f0;(repeat ((with_reducible show DR _ _ _ (_::_) _);first|(refine cx _ (envG _ _ _ _ _ _) rfl rfl rfl rfl rfl ?_ (hc:=by first|exact k0|exact k1|exact ks))|(refine ex rfl (jc1 (envG _ _ _ _ _ _) rfl rfl rfl (hc:=by first|exact kt)) ?_)|(refine sx ?_)));refine ja7 ?_;refine kl1 ?_
  (repeat refine ja0 ?_);refine ja8 [2,3,4,8,32] ?_;intro w0 A S0 f0;(repeat ((with_reducible show DR _ _ _ (_::_) _);first|(refine cx _ (envG _ _ _ _ _ _) rfl rfl rfl rfl rfl ?_ (hc:=by first|exact k0|exact k1|exact ks))|(refine ex rfl (jc1 (envG _ _ _ _ _ _) rfl rfl rfl (hc:=by first|exact kt)) ?_)|(refine sx ?_)));refine ja7 ?_;refine kl1 ?_
  (repeat refine ja0 ?_);refine iffx ?_
  (repeat refine ja0 ?_);refine ja1 ?_
  (repeat refine ja0 ?_);refine ja8 [3,4,8] ?_;intro w0 A S0 f0;(repeat ((with_reducible show DR _ _ _ (_::_) _);first|(refine cx _ (envG _ _ _ _ _ _) rfl rfl rfl rfl rfl ?_ (hc:=by first|exact k0|exact k1|exact ks))|(refine ex rfl (jc1 (envG _ _ _ _ _ _) rfl rfl rfl (hc:=by first|exact kt)) ?_)|(refine sx ?_)));refine ja7 ?_;refine kl1 ?_
  (repeat refine ja0 ?_);refine ja8 [4,8] ?_;intro w0 A S0 f0;(repeat ((with_reducible show DR _ _ _ (_::_) _);first|(refine cx _ (envG _ _ _ _ _ _) rfl rfl rfl rfl rfl ?_ (hc:=by first|exact k0|exact k1|exact ks))|(refine ex rfl (jc1 (envG _ _ _ _ _ _) rfl rfl rfl (hc:=by first|exact kt)) ?_)|(refine sx ?_)));refine ja7 ?_;refine kl1 ?_
  (repeat refine ja0 ?_);refine ja8 [4,5] ?_;intro w0 A S0 f0;(repeat ((with_reducible show DR _ _ _ (_::_) _);first|(refine cx _ (envG _ _ _ _ _ _) rfl rfl rfl rfl rfl ?_ (hc:=by first|exact k0|exact k1|exact ks))|(refine ex rfl (jc1 (envG _ _ _ _ _ _) rfl rfl rfl (hc:=by first|exact kt)) ?_)|(refine sx ?_)));refine ja7 ?_;refine kl1 ?_
  (repeat refine ja0 ?_);refine ja3 ?_;refine retx ?_;(try dsimp only [outV,ja4])
  exact ja2 rfl
 ·rw [hst] at ks
  rw [if_pos rfl]
  have kw:=kw6 r.s e hs he
  have kt:=qb5 ⟨(setC r.s e).1,r.h,r.e,r.n+1⟩ e he.1 (by omega) hb.2.2.2.1 (by show r.e≤4096;omega)
  unfold scD at kw
  generalize (setC r.s e).1=t at *
  generalize (setC r.s e).2=w at *
  by_cases hw:w=0
  ·have d3:decide (w=0)=true:=decide_eq_true hw
   rw [if_pos hw]
   generalize trnR ⟨t,r.h,r.e,r.n+1⟩ e=z at *
   have hX:=and_true;refine pcx Tryz.func23 rfl Tryz.ntmps23 Tryz.results23 rfl ?_;intro w0 A
   have hX:=And.intro jb1 (And.intro jb6 (And.intro ji8 (And.intro jf0 (And.intro ja9 (And.intro d2 (d3))))))
   (repeat refine ja0 ?_);refine ja8 [2,3,4] ?_;intro w0 A S0 f0;(repeat ((with_reducible show DR _ _ _ (_::_) _);first|(refine cx _ (envG _ _ _ _ _ _) rfl rfl rfl rfl rfl ?_ (hc:=by first|exact k0|exact k1|exact ks|exact kw))|(refine ex rfl (jc1 (envG _ _ _ _ _ _) rfl rfl rfl (hc:=by first|exact kt)) ?_)|(refine sx ?_)));refine ja7 ?_;refine kl1 ?_
   (repeat refine ja0 ?_);refine ja8 [2,3,4,6] ?_;intro w0 A S0 f0;(repeat ((with_reducible show DR _ _ _ (_::_) _);first|(refine cx _ (envG _ _ _ _ _ _) rfl rfl rfl rfl rfl ?_ (hc:=by first|exact k0|exact k1|exact ks|exact kw))|(refine ex rfl (jc1 (envG _ _ _ _ _ _) rfl rfl rfl (hc:=by first|exact kt)) ?_)|(refine sx ?_)));refine ja7 ?_;refine kl1 ?_
   (repeat refine ja0 ?_);refine ja8 [2,3,4,6,14] ?_;intro w0 A S0 f0;(repeat ((with_reducible show DR _ _ _ (_::_) _);first|(refine cx _ (envG _ _ _ _ _ _) rfl rfl rfl rfl rfl ?_ (hc:=by first|exact k0|exact k1|exact ks|exact kw))|(refine ex rfl (jc1 (envG _ _ _ _ _ _) rfl rfl rfl (hc:=by first|exact kt)) ?_)|(refine sx ?_)));refine ja7 ?_;refine kl1 ?_
   (repeat refine ja0 ?_);refine iffx ?_
   (repeat refine ja0 ?_);refine ja1 ?_
   (repeat refine ja0 ?_);refine ja8 [2,3,4,7] ?_;intro w0 A S0 f0;(repeat ((with_reducible show DR _ _ _ (_::_) _);first|(refine cx _ (envG _ _ _ _ _ _) rfl rfl rfl rfl rfl ?_ (hc:=by first|exact k0|exact k1|exact ks|exact kw))|(refine ex rfl (jc1 (envG _ _ _ _ _ _) rfl rfl rfl (hc:=by first|exact kt)) ?_)|(refine sx ?_)));refine ja7 ?_;refine kl1 ?_
   (repeat refine ja0 ?_);refine ja8 [2,3,4,7,22] ?_;intro w0 A S0 f0;(repeat ((with_reducible show DR _ _ _ (_::_) _);first|(refine cx _ (envG _ _ _ _ _ _) rfl rfl rfl rfl rfl ?_ (hc:=by first|exact k0|exact k1|exact ks|exact kw))|(refine ex rfl (jc1 (envG _ _ _ _ _ _) rfl rfl rfl (hc:=by first|exact kt)) ?_)|(refine sx ?_)));refine ja7 ?_;refine kl1 ?_
   (repeat refine ja0 ?_);refine iffx ?_
   (repeat refine ja0 ?_);refine ja1 ?_
   (repeat refine ja0 ?_);refine ja8 [2,3,4,27] ?_;intro w0 A S0 f0;(repeat ((with_reducible show DR _ _ _ (_::_) _);first|(refine cx _ (envG _ _ _ _ _ _) rfl rfl rfl rfl rfl ?_ (hc:=by first|exact k0|exact k1|exact ks|exact kw))|(refine ex rfl (jc1 (envG _ _ _ _ _ _) rfl rfl rfl (hc:=by first|exact kt)) ?_)|(refine sx ?_)));refine ja7 ?_;refine kl1 ?_
   (repeat refine ja0 ?_);refine iffx ?_
   (repeat refine ja0 ?_);refine ja1 ?_
   (repeat refine ja0 ?_);refine ja8 [2,3,4,8] ?_;intro w0 A S0 f0;(repeat ((with_reducible show DR _ _ _ (_::_) _);first|(refine cx _ (envG _ _ _ _ _ _) rfl rfl rfl rfl rfl ?_ (hc:=by first|exact k0|exact k1|exact ks|exact kw))|(refine ex rfl (jc1 (envG _ _ _ _ _ _) rfl rfl rfl (hc:=by first|exact kt)) ?_)|(refine sx ?_)));refine ja7 ?_;refine kl1 ?_
   (repeat refine ja0 ?_);refine ja8 [2,3,4,8,32] ?_;intro w0 A S0 f0;(repeat ((with_reducible show DR _ _ _ (_::_) _);first|(refine cx _ (envG _ _ _ _ _ _) rfl rfl rfl rfl rfl ?_ (hc:=by first|exact k0|exact k1|exact ks|exact kw))|(refine ex rfl (jc1 (envG _ _ _ _ _ _) rfl rfl rfl (hc:=by first|exact kt)) ?_)|(refine sx ?_)));refine ja7 ?_;refine kl1 ?_
   (repeat refine ja0 ?_);refine iftx ?_
   (repeat refine ja0 ?_);refine ja8 [2,3,4,8,9,10] ?_;intro w0 A S0 f0;(repeat ((with_reducible show DR _ _ _ (_::_) _);first|(refine cx _ (envG _ _ _ _ _ _) rfl rfl rfl rfl rfl ?_ (hc:=by first|exact k0|exact k1|exact ks|exact kw))|(refine ex rfl (jc1 (envG _ _ _ _ _ _) rfl rfl rfl (hc:=by first|exact kt)) ?_)|(refine sx ?_)));refine ja7 ?_;refine kl1 ?_
   (repeat refine ja0 ?_);refine ja8 [2,3,4,8,9,10,41] ?_;intro w0 A S0 f0;(repeat ((with_reducible show DR _ _ _ (_::_) _);first|(refine cx _ (envG _ _ _ _ _ _) rfl rfl rfl rfl rfl ?_ (hc:=by first|exact k0|exact k1|exact ks|exact kw))|(refine ex rfl (jc1 (envG _ _ _ _ _ _) rfl rfl rfl (hc:=by first|exact kt)) ?_)|(refine sx ?_)));refine ja7 ?_;refine kl1 ?_
   (repeat refine ja0 ?_);refine iffx ?_
   (repeat refine ja0 ?_);refine ja1 ?_
   (repeat refine ja0 ?_);refine ja8 [3,4,8] ?_;intro w0 A S0 f0;(repeat ((with_reducible show DR _ _ _ (_::_) _);first|(refine cx _ (envG _ _ _ _ _ _) rfl rfl rfl rfl rfl ?_ (hc:=by first|exact k0|exact k1|exact ks|exact kw))|(refine ex rfl (jc1 (envG _ _ _ _ _ _) rfl rfl rfl (hc:=by first|exact kt)) ?_)|(refine sx ?_)));refine ja7 ?_;refine kl1 ?_
   (repeat refine ja0 ?_);refine ja8 [3,4,8] ?_;intro w0 A S0 f0;(repeat ((with_reducible show DR _ _ _ (_::_) _);first|(refine cx _ (envG _ _ _ _ _ _) rfl rfl rfl rfl rfl ?_ (hc:=by first|exact k0|exact k1|exact ks|exact kw))|(refine ex rfl (jc1 (envG _ _ _ _ _ _) rfl rfl rfl (hc:=by first|exact kt)) ?_)|(refine sx ?_)));refine ja7 ?_;refine kl1 ?_
   (repeat refine ja0 ?_);refine ja8 [4,8] ?_;intro w0 A S0 f0;(repeat ((with_reducible show DR _ _ _ (_::_) _);first|(refine cx _ (envG _ _ _ _ _ _) rfl rfl rfl rfl rfl ?_ (hc:=by first|exact k0|exact k1|exact ks|exact kw))|(refine ex rfl (jc1 (envG _ _ _ _ _ _) rfl rfl rfl (hc:=by first|exact kt)) ?_)|(refine sx ?_)));refine ja7 ?_;refine kl1 ?_
   (repeat refine ja0 ?_);refine ja8 [4,5] ?_;intro w0 A S0 f0;(repeat ((with_reducible show DR _ _ _ (_::_) _);first|(refine cx _ (envG _ _ _ _ _ _) rfl rfl rfl rfl rfl ?_ (hc:=by first|exact k0|exact k1|exact ks|exact kw))|(refine ex rfl (jc1 (envG _ _ _ _ _ _) rfl rfl rfl (hc:=by first|exact kt)) ?_)|(refine sx ?_)));refine ja7 ?_;refine kl1 ?_
   (repeat refine ja0 ?_);refine ja3 ?_;refine retx ?_;(try dsimp only [outV,ja4])
   exact ja2 rfl
  ·have d3:decide (w=0)=false:=decide_eq_false hw
   rw [if_neg hw]
   have hX:=and_true;refine pcx Tryz.func23 rfl Tryz.ntmps23 Tryz.results23 rfl ?_;intro w0 A
   have hX:=And.intro jb1 (And.intro jb6 (And.intro ji8 (And.intro jf0 (And.intro ja9 (And.intro d2 (d3))))))
   have hK:=And.intro (k0) (And.intro (k1) (And.intro (ks) (And.intro (kw) trivial)));(repeat refine ja0 ?_);refine rgx [2,3,4] ?_
   (repeat refine ja0 ?_);refine rgx [2,3,4,6] ?_
   (repeat refine ja0 ?_);refine rgx [2,3,4,6,14] ?_
   (repeat refine ja0 ?_);refine iffx ?_
   (repeat refine ja0 ?_);refine ja1 ?_
   (repeat refine ja0 ?_);refine rgx [2,3,4,7] ?_
   (repeat refine ja0 ?_);refine rgx [2,3,4,7,22] ?_
   (repeat refine ja0 ?_);refine iffx ?_
   (repeat refine ja0 ?_);refine ja1 ?_
   (repeat refine ja0 ?_);refine rgx [2,3,4,27] ?_
   (repeat refine ja0 ?_);refine iffx ?_
   (repeat refine ja0 ?_);refine ja1 ?_
   (repeat refine ja0 ?_);refine rgx [2,3,4,8] ?_
   (repeat refine ja0 ?_);refine rgx [2,3,4,8,32] ?_
   (repeat refine ja0 ?_);refine iftx ?_
   (repeat refine ja0 ?_);refine rgx [2,3,4,8,9,10] ?_
   (repeat refine ja0 ?_);refine rgx [2,3,4,8,9,10,41] ?_
   (repeat refine ja0 ?_);refine iftx ?_
   (repeat refine ja0 ?_);refine rgx [4,5] ?_
   (repeat refine ja0 ?_);refine ja3 ?_;refine retx ?_;(try dsimp only [outV,ja4])
   exact ja2 rfl
end Go.Proofs.YtegfnhibmhjdbaaGreatDoor
