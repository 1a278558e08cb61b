/- Scripts: the law of texts read back. -/
import Derived.Test.YtlhdeplkmghniaaDoorSPD
import Derived.Test.YtlhdeplkmghniaaDoorSYM
set_option linter.unusedSimpArgs false
set_option linter.unusedVariables false
set_option maxRecDepth 10000
namespace Go.Proofs.YtlhdeplkmghniaaDoor
open Go.RowKit
theorem qn6 {c:Su}{l:List Dd} (hl:∀d ∈ l,ddB d):(putO c l).1.length≤100000000:=by
 by_cases h1:4096<l.length
 ·rw [jr2 h1];decide
 by_cases h2:okS c∧∀d ∈ l,okD d
 ·rw [jo9 h1 h2]
  have a:=kf0 h2.1
  have b:=jt3 (fun d hd=>(hl d hd).bi) h2.2
  have e:l.length*20001≤4096*20001:=Nat.mul_le_mul_right _ (by omega)
  show (putT c l).length≤_
  unfold putT
  simp only [List.length_append,List.length_cons,List.length_nil]
  omega
 ·rw [jo8 h1 h2];decide
theorem qe9 {c:Su}{l:List Dd} (h:(putO c l).2=0):getO (putO c l).1=(c,l,0,0):=by
 by_cases h1:4096<l.length
 ·rw [jr2 h1] at h;exact absurd (show (7:Int)=0 from h) (by decide)
 by_cases h2:okS c∧∀d ∈ l,okD d
 ·rw [jo9 h1 h2];exact ks5 h2.1 h2.2 (by omega)
 ·rw [jo8 h1 h2] at h;exact absurd (show (2:Int)=0 from h) (by decide)
set_option maxHeartbeats 32000000 in
theorem kn6 (c:Su) (l:List Dd) (t u:List UInt8) (h:200<l.length∨65536<t.length∨32768<u.length):PC (ja4 Tryd.prog) 5 [sepD c,.sl l ddz ddD,strD t,strD u] (bD true):=by
 have lv:=jo0
 rw [jc6]
 by_cases c1:200<l.length
 ·have d1:decide ((200:Int)<(l.length:Int))=true:=decide_eq_true (by omega)
  have hX:=and_true;refine pcx Tryd.func5 rfl Tryd.ntmps5 Tryd.results5 rfl ?_;intro w0 A
  have hX:=And.intro d1 (and_true)
  have hK:=And.intro (lv) trivial;refine rgx [1,2,3,4] ?_
  refine rgx [1,2,3,4,26] ?_
  refine iffs ?_
  refine rggx [1,2,3,4,39] ?_
  refine iftx ?_
  refine rgx [8] ?_
  exact retF
 have d1:decide ((200:Int)<(l.length:Int))=false:=decide_eq_false (by omega)
 by_cases c2:65536<t.length
 ·have d2:decide ((65536:Int)<(t.length:Int))=true:=decide_eq_true (by omega)
  have hX:=and_true;refine pcx Tryd.func5 rfl Tryd.ntmps5 Tryd.results5 rfl ?_;intro w0 A
  have hX:=And.intro d1 (And.intro d2 (and_true))
  have hK:=And.intro (lv) trivial;refine rgx [1,2,3,4] ?_
  refine rgx [1,2,3,4,26] ?_
  refine iffs ?_
  refine rggx [1,2,3,4,39] ?_
  refine iftx ?_
  refine rgx [8] ?_
  exact retF
 have d2:decide ((65536:Int)<(t.length:Int))=false:=decide_eq_false (by omega)
 have d3:decide ((32768:Int)<(u.length:Int))=true:=decide_eq_true (by omega)
 have hX:=and_true;refine pcx Tryd.func5 rfl Tryd.ntmps5 Tryd.results5 rfl ?_;intro w0 A
 have hX:=And.intro d1 (And.intro d2 (And.intro d3 (and_true)))
 have hK:=And.intro (lv) trivial;refine rgx [1,2,3,4] ?_
 refine rgx [1,2,3,4,26] ?_
 refine iffs ?_
 refine rggx [1,2,3,4,39] ?_
 refine iftx ?_
 refine rgx [8] ?_
 exact retF
set_option maxHeartbeats 64000000 in
theorem kn5 (c:Su) (l:List Dd) (t u:List UInt8) (hc:sepB c) (hl:∀d ∈ l,ddB d):PC (ja4 Tryd.prog) 5 [sepD c,.sl l ddz ddD,strD t,strD u] (bD true):=by
 by_cases hq:200<l.length∨65536<t.length∨32768<u.length
 ·exact kn6 c l t u hq
 have lv:=jo0
 have d1:decide ((200:Int)<(l.length:Int))=false:=decide_eq_false (by omega)
 have d2:decide ((65536:Int)<(t.length:Int))=false:=decide_eq_false (by omega)
 have d3:decide ((32768:Int)<(u.length:Int))=false:=decide_eq_false (by omega)
 have k1:=kb2 c l hc hl
 have k2:=js6 (putO c l).1 (by have:=qn6 (c:=c) hl;omega)
 have hb:=@qe9 c l
 have k3:=js6 t (by omega)
 have k5:=js4 u (by omega)
 obtain ⟨r,hr,k7⟩:=ke3 l l (by omega)
 obtain rfl:r=true:=hr.2 rfl
 have k4:PC _ _ _ (seS (putO (getO t).1 (getO t).2.1)):=kb2 (getO t).1 (getO t).2.1 (by
  by_cases e:(getO t).2.2.2=0
  ·exact qx7 (jx2 e).1
  ·rw [(kd0 e).1];exact ve5) (by
  by_cases e:(getO t).2.2.2=0
  ·exact fun d hd=>qb1 ((jx2 e).2.1 d hd)
  ·rw [(kd0 e).2];exact fun d hd=>absurd hd (by simp))
 have k6:PC _ _ _ (seS (lnO (parO u).1)):=ka0 (parO u).1 (by
  rcases km8 u with e|e
  ·exact qb1 (jz0 e).1
  ·rw [e];exact vh3)
 have q4:(getO t).2.2.2=0→putO (getO t).1 (getO t).2.1=(t,0):=fun e=>by
  have:=jx2 e
  rw [jo9 (by omega) ⟨this.1,this.2.1⟩,this.2.2.2.1]
 have q6:(parO u).2=0→lnO (parO u).1=(u,0):=fun e=>by
  have:=jz0 e
  unfold lnO
  rw [if_pos this.1,this.2]
 clear hr hl
 unfold seS at k1 k4 k6
 unfold sgD at k2 k3
 unfold pdD at k5
 generalize (parO u).1=y at *
 generalize (parO u).2=e5 at *
 generalize lnO y=s6 at *
 generalize (getO t).1=c3 at *
 generalize (getO t).2.1=l3 at *
 generalize (getO t).2.2.1=n3 at *
 generalize (getO t).2.2.2=e3 at *
 generalize putO c3 l3=s4 at *
 generalize putO c l=s1 at *
 generalize getO s1.1=G at *
 obtain ⟨s4,e4⟩:=s4
 obtain ⟨s6,e6⟩:=s6
 obtain ⟨s1,e1⟩:=s1
 obtain ⟨c2,l2,n2,e2⟩:=G
 rw [jf4] at k5 k6
 rw [jc6] at k1 k2 k3 k4
 rw [jc6]
 simp only at k1 k2 k3 k4 k5 k6 hb q4 q6
 have hX:=and_true;refine pcx Tryd.func5 rfl Tryd.ntmps5 Tryd.results5 rfl ?_;intro w0 A
 have hX:=And.intro d1 (And.intro d2 (d3))
 refine regX [1,2,3,4] ?_;intro w0 A S0 f0;(repeat ((with_reducible show DR _ _ _ (_::_) _);first|(refine cx _ (envG _ _ _ _ _ _) rfl rfl rfl rfl rfl ?_ (hc:=by first|exact lv|exact k1|exact k2|exact k3|exact k4|exact k5|exact k6|exact k7))|(refine eqsx 3 _ rfl rfl rfl rfl (.inr rfl) (by kernel_rfl) (by kernel_rfl) rfl ?_)|(refine sx ?_)));refine ja0 ?_;refine kl1 ?_
 refine regX [1,2,3,4,26] ?_;intro w0 A S0 f0;(repeat ((with_reducible show DR _ _ _ (_::_) _);first|(refine cx _ (envG _ _ _ _ _ _) rfl rfl rfl rfl rfl ?_ (hc:=by first|exact lv|exact k1|exact k2|exact k3|exact k4|exact k5|exact k6|exact k7))|(refine eqsx 3 _ rfl rfl rfl rfl (.inr rfl) (by kernel_rfl) (by kernel_rfl) rfl ?_)|(refine sx ?_)));refine ja0 ?_;refine kl1 ?_
 refine iffs ?_
 refine regX [1,2,3,4,39] ?_;intro w0 A S0 f0;(repeat (first|(refine gtx rfl rfl ?_)|(refine gx ?_)|((with_reducible show DR _ _ _ (_::_) _);first|(refine cx _ (envG _ _ _ _ _ _) rfl rfl rfl rfl rfl ?_ (hc:=by first|exact lv|exact k1|exact k2|exact k3|exact k4|exact k5|exact k6|exact k7))|(refine eqsx 3 _ rfl rfl rfl rfl (.inr rfl) (by kernel_rfl) (by kernel_rfl) rfl ?_)|(refine sx ?_))));refine ja0 ?_;refine kl1 ?_
 refine iffs ?_
 refine regX [1,2,3,4,9,10] ?_;intro w0 A S0 f0;(repeat ((with_reducible show DR _ _ _ (_::_) _);first|(refine cx _ (envG _ _ _ _ _ _) rfl rfl rfl rfl rfl ?_ (hc:=by first|exact lv|exact k1|exact k2|exact k3|exact k4|exact k5|exact k6|exact k7))|(refine eqsx 3 _ rfl rfl rfl rfl (.inr rfl) (by kernel_rfl) (by kernel_rfl) rfl ?_)|(refine sx ?_)));refine ja0 ?_;refine kl1 ?_
 refine regX [1,2,3,4,10,11,12,14] ?_;intro w0 A S0 f0;(repeat ((with_reducible show DR _ _ _ (_::_) _);first|(refine cx _ (envG _ _ _ _ _ _) rfl rfl rfl rfl rfl ?_ (hc:=by first|exact lv|exact k1|exact k2|exact k3|exact k4|exact k5|exact k6|exact k7))|(refine eqsx 3 _ rfl rfl rfl rfl (.inr rfl) (by kernel_rfl) (by kernel_rfl) rfl ?_)|(refine sx ?_)));refine ja0 ?_;refine kl1 ?_
 by_cases h1:e1=0
 case pos =>
  have d5:decide (e1=(0:Int))=true:=decide_eq_true h1
  have hb:=hb h1
  simp only [Prod.mk.injEq] at hb
  obtain ⟨rfl,rfl,rfl,rfl⟩:=hb
  have hX:=And.intro d5 (And.intro dcIj (And.intro dcSj (And.intro Bool.and_self (Bool.not_true))))
  refine regX [2,3,69] ?_;intro w0 A S0 f0;(repeat (first|(refine gtx rfl rfl ?_)|(refine gx ?_)|((with_reducible show DR _ _ _ (_::_) _);first|(refine cx _ (envG _ _ _ _ _ _) rfl rfl rfl rfl rfl ?_ (hc:=by first|exact lv|exact k1|exact k2|exact k3|exact k4|exact k5|exact k6|exact k7))|(refine eqsx 3 _ rfl rfl rfl rfl (.inr rfl) (by kernel_rfl) (by kernel_rfl) rfl ?_)|(refine sx ?_))));refine ja0 ?_;refine kl1 ?_
  refine iffs ?_
  refine regX [2,3,15,16,18] ?_;intro w0 A S0 f0;(repeat ((with_reducible show DR _ _ _ (_::_) _);first|(refine cx _ (envG _ _ _ _ _ _) rfl rfl rfl rfl rfl ?_ (hc:=by first|exact lv|exact k1|exact k2|exact k3|exact k4|exact k5|exact k6|exact k7))|(refine eqsx 3 _ rfl rfl rfl rfl (.inr rfl) (by kernel_rfl) (by kernel_rfl) rfl ?_)|(refine sx ?_)));refine ja0 ?_;refine kl1 ?_
  refine regX [2,3,18,19,20] ?_;intro w0 A S0 f0;(repeat ((with_reducible show DR _ _ _ (_::_) _);first|(refine cx _ (envG _ _ _ _ _ _) rfl rfl rfl rfl rfl ?_ (hc:=by first|exact lv|exact k1|exact k2|exact k3|exact k4|exact k5|exact k6|exact k7))|(refine eqsx 3 _ rfl rfl rfl rfl (.inr rfl) (by kernel_rfl) (by kernel_rfl) rfl ?_)|(refine sx ?_)));refine ja0 ?_;refine kl1 ?_
  refine regX [2,3,18,19,20,21,22] ?_;intro w0 A S0 f0;(repeat ((with_reducible show DR _ _ _ (_::_) _);first|(refine cx _ (envG _ _ _ _ _ _) rfl rfl rfl rfl rfl ?_ (hc:=by first|exact lv|exact k1|exact k2|exact k3|exact k4|exact k5|exact k6|exact k7))|(refine eqsx 3 _ rfl rfl rfl rfl (.inr rfl) (by kernel_rfl) (by kernel_rfl) rfl ?_)|(refine sx ?_)));refine ja0 ?_;refine kl1 ?_
  refine regX [2,3,18,19,20,22,23,24] ?_;intro w0 A S0 f0;(repeat ((with_reducible show DR _ _ _ (_::_) _);first|(refine cx _ (envG _ _ _ _ _ _) rfl rfl rfl rfl rfl ?_ (hc:=by first|exact lv|exact k1|exact k2|exact k3|exact k4|exact k5|exact k6|exact k7))|(refine eqsx 3 _ rfl rfl rfl rfl (.inr rfl) (by kernel_rfl) (by kernel_rfl) rfl ?_)|(refine sx ?_)));refine ja0 ?_;refine kl1 ?_
  by_cases h3:e3=0
  ·have q:=q4 h3
   simp only [Prod.mk.injEq] at q
   obtain ⟨rfl,rfl⟩:=q
   have d6:decide (e3=(0:Int))=true:=decide_eq_true h3
   by_cases h5:e5=0
   ·have q:=q6 h5
    simp only [Prod.mk.injEq] at q
    obtain ⟨rfl,rfl⟩:=q
    have d7:decide (e5=(0:Int))=true:=decide_eq_true h5
    have hX:=And.intro d6 (And.intro d7 (And.intro dcIj (dcSj)))
    refine regX [8] ?_;intro w0 A S0 f0;(repeat (first|(refine gtx rfl rfl ?_)|(refine gx ?_)|((with_reducible show DR _ _ _ (_::_) _);first|(refine cx _ (envG _ _ _ _ _ _) rfl rfl rfl rfl rfl ?_ (hc:=by first|exact lv|exact k1|exact k2|exact k3|exact k4|exact k5|exact k6|exact k7))|(refine eqsx 3 _ rfl rfl rfl rfl (.inr rfl) (by kernel_rfl) (by kernel_rfl) rfl ?_)|(refine sx ?_))));refine ja0 ?_;refine kl1 ?_
    exact retF
   ·have d7:decide (e5=(0:Int))=false:=decide_eq_false h5
    have hX:=And.intro d6 (And.intro d7 (And.intro dcIj (dcSj)))
    refine regX [8] ?_;intro w0 A S0 f0;(repeat (first|(refine gtx rfl rfl ?_)|(refine gx ?_)|((with_reducible show DR _ _ _ (_::_) _);first|(refine cx _ (envG _ _ _ _ _ _) rfl rfl rfl rfl rfl ?_ (hc:=by first|exact lv|exact k1|exact k2|exact k3|exact k4|exact k5|exact k6|exact k7))|(refine eqsx 3 _ rfl rfl rfl rfl (.inr rfl) (by kernel_rfl) (by kernel_rfl) rfl ?_)|(refine sx ?_))));refine ja0 ?_;refine kl1 ?_
    exact retF
  ·have d6:decide (e3=(0:Int))=false:=decide_eq_false h3
   by_cases h5:e5=0
   ·have q:=q6 h5
    simp only [Prod.mk.injEq] at q
    obtain ⟨rfl,rfl⟩:=q
    have d7:decide (e5=(0:Int))=true:=decide_eq_true h5
    have hX:=And.intro d6 (And.intro d7 (And.intro dcIj (dcSj)))
    refine regX [8] ?_;intro w0 A S0 f0;(repeat (first|(refine gtx rfl rfl ?_)|(refine gx ?_)|((with_reducible show DR _ _ _ (_::_) _);first|(refine cx _ (envG _ _ _ _ _ _) rfl rfl rfl rfl rfl ?_ (hc:=by first|exact lv|exact k1|exact k2|exact k3|exact k4|exact k5|exact k6|exact k7))|(refine eqsx 3 _ rfl rfl rfl rfl (.inr rfl) (by kernel_rfl) (by kernel_rfl) rfl ?_)|(refine sx ?_))));refine ja0 ?_;refine kl1 ?_
    exact retF
   ·have d7:decide (e5=(0:Int))=false:=decide_eq_false h5
    have hX:=And.intro d6 (And.intro d7 (And.intro dcIj (dcSj)))
    refine regX [8] ?_;intro w0 A S0 f0;(repeat (first|(refine gtx rfl rfl ?_)|(refine gx ?_)|((with_reducible show DR _ _ _ (_::_) _);first|(refine cx _ (envG _ _ _ _ _ _) rfl rfl rfl rfl rfl ?_ (hc:=by first|exact lv|exact k1|exact k2|exact k3|exact k4|exact k5|exact k6|exact k7))|(refine eqsx 3 _ rfl rfl rfl rfl (.inr rfl) (by kernel_rfl) (by kernel_rfl) rfl ?_)|(refine sx ?_))));refine ja0 ?_;refine kl1 ?_
    exact retF
 have d5:decide (e1=(0:Int))=false:=decide_eq_false h1
 have hX:=And.intro d5 (and_true)
 refine regX [2,3,69] ?_;intro w0 A S0 f0;(repeat (first|(refine gtx rfl rfl ?_)|(refine gx ?_)|((with_reducible show DR _ _ _ (_::_) _);first|(refine cx _ (envG _ _ _ _ _ _) rfl rfl rfl rfl rfl ?_ (hc:=by first|exact lv|exact k1|exact k2|exact k3|exact k4|exact k5|exact k6|exact k7))|(refine eqsx 3 _ rfl rfl rfl rfl (.inr rfl) (by kernel_rfl) (by kernel_rfl) rfl ?_)|(refine sx ?_))));refine ja0 ?_;refine kl1 ?_
 refine iffs ?_
 refine regX [2,3,15,16,18] ?_;intro w0 A S0 f0;(repeat ((with_reducible show DR _ _ _ (_::_) _);first|(refine cx _ (envG _ _ _ _ _ _) rfl rfl rfl rfl rfl ?_ (hc:=by first|exact lv|exact k1|exact k2|exact k3|exact k4|exact k5|exact k6|exact k7))|(refine eqsx 3 _ rfl rfl rfl rfl (.inr rfl) (by kernel_rfl) (by kernel_rfl) rfl ?_)|(refine sx ?_)));refine ja0 ?_;refine kl1 ?_
 refine regX [2,3,18,19,20] ?_;intro w0 A S0 f0;(repeat ((with_reducible show DR _ _ _ (_::_) _);first|(refine cx _ (envG _ _ _ _ _ _) rfl rfl rfl rfl rfl ?_ (hc:=by first|exact lv|exact k1|exact k2|exact k3|exact k4|exact k5|exact k6|exact k7))|(refine eqsx 3 _ rfl rfl rfl rfl (.inr rfl) (by kernel_rfl) (by kernel_rfl) rfl ?_)|(refine sx ?_)));refine ja0 ?_;refine kl1 ?_
 refine regX [2,3,18,19,20,21,22] ?_;intro w0 A S0 f0;(repeat ((with_reducible show DR _ _ _ (_::_) _);first|(refine cx _ (envG _ _ _ _ _ _) rfl rfl rfl rfl rfl ?_ (hc:=by first|exact lv|exact k1|exact k2|exact k3|exact k4|exact k5|exact k6|exact k7))|(refine eqsx 3 _ rfl rfl rfl rfl (.inr rfl) (by kernel_rfl) (by kernel_rfl) rfl ?_)|(refine sx ?_)));refine ja0 ?_;refine kl1 ?_
 refine regX [2,3,18,19,20,22,23,24] ?_;intro w0 A S0 f0;(repeat ((with_reducible show DR _ _ _ (_::_) _);first|(refine cx _ (envG _ _ _ _ _ _) rfl rfl rfl rfl rfl ?_ (hc:=by first|exact lv|exact k1|exact k2|exact k3|exact k4|exact k5|exact k6|exact k7))|(refine eqsx 3 _ rfl rfl rfl rfl (.inr rfl) (by kernel_rfl) (by kernel_rfl) rfl ?_)|(refine sx ?_)));refine ja0 ?_;refine kl1 ?_
 by_cases h3:e3=0
 ·have q:=q4 h3
  simp only [Prod.mk.injEq] at q
  obtain ⟨rfl,rfl⟩:=q
  have d6:decide (e3=(0:Int))=true:=decide_eq_true h3
  by_cases h5:e5=0
  ·have q:=q6 h5
   simp only [Prod.mk.injEq] at q
   obtain ⟨rfl,rfl⟩:=q
   have d7:decide (e5=(0:Int))=true:=decide_eq_true h5
   have hX:=And.intro d6 (And.intro d7 (And.intro dcIj (dcSj)))
   refine regX [8] ?_;intro w0 A S0 f0;(repeat (first|(refine gtx rfl rfl ?_)|(refine gx ?_)|((with_reducible show DR _ _ _ (_::_) _);first|(refine cx _ (envG _ _ _ _ _ _) rfl rfl rfl rfl rfl ?_ (hc:=by first|exact lv|exact k1|exact k2|exact k3|exact k4|exact k5|exact k6|exact k7))|(refine eqsx 3 _ rfl rfl rfl rfl (.inr rfl) (by kernel_rfl) (by kernel_rfl) rfl ?_)|(refine sx ?_))));refine ja0 ?_;refine kl1 ?_
   exact retF
  ·have d7:decide (e5=(0:Int))=false:=decide_eq_false h5
   have hX:=And.intro d6 (And.intro d7 (And.intro dcIj (dcSj)))
   refine regX [8] ?_;intro w0 A S0 f0;(repeat (first|(refine gtx rfl rfl ?_)|(refine gx ?_)|((with_reducible show DR _ _ _ (_::_) _);first|(refine cx _ (envG _ _ _ _ _ _) rfl rfl rfl rfl rfl ?_ (hc:=by first|exact lv|exact k1|exact k2|exact k3|exact k4|exact k5|exact k6|exact k7))|(refine eqsx 3 _ rfl rfl rfl rfl (.inr rfl) (by kernel_rfl) (by kernel_rfl) rfl ?_)|(refine sx ?_))));refine ja0 ?_;refine kl1 ?_
   exact retF
 ·have d6:decide (e3=(0:Int))=false:=decide_eq_false h3
  by_cases h5:e5=0
  ·have q:=q6 h5
   simp only [Prod.mk.injEq] at q
   obtain ⟨rfl,rfl⟩:=q
   have d7:decide (e5=(0:Int))=true:=decide_eq_true h5
   have hX:=And.intro d6 (And.intro d7 (And.intro dcIj (dcSj)))
   refine regX [8] ?_;intro w0 A S0 f0;(repeat (first|(refine gtx rfl rfl ?_)|(refine gx ?_)|((with_reducible show DR _ _ _ (_::_) _);first|(refine cx _ (envG _ _ _ _ _ _) rfl rfl rfl rfl rfl ?_ (hc:=by first|exact lv|exact k1|exact k2|exact k3|exact k4|exact k5|exact k6|exact k7))|(refine eqsx 3 _ rfl rfl rfl rfl (.inr rfl) (by kernel_rfl) (by kernel_rfl) rfl ?_)|(refine sx ?_))));refine ja0 ?_;refine kl1 ?_
   exact retF
  ·have d7:decide (e5=(0:Int))=false:=decide_eq_false h5
   have hX:=And.intro d6 (And.intro d7 (And.intro dcIj (dcSj)))
   refine regX [8] ?_;intro w0 A S0 f0;(repeat (first|(refine gtx rfl rfl ?_)|(refine gx ?_)|((with_reducible show DR _ _ _ (_::_) _);first|(refine cx _ (envG _ _ _ _ _ _) rfl rfl rfl rfl rfl ?_ (hc:=by first|exact lv|exact k1|exact k2|exact k3|exact k4|exact k5|exact k6|exact k7))|(refine eqsx 3 _ rfl rfl rfl rfl (.inr rfl) (by kernel_rfl) (by kernel_rfl) rfl ?_)|(refine sx ?_))));refine ja0 ?_;refine kl1 ?_
   exact retF
end Go.Proofs.YtlhdeplkmghniaaDoor
