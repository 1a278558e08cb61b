/- Levels: whether they may be changed, the program's. (Written by gen_pq.py.) -/
import Derived.Test.YthphphlbedlicaaGreatDoorFPD
import Derived.Test.YthphphlbedlicaaGreatDoorFQL
import Derived.Test.YthphphlbedlicaaGreatDoorFQF
import Derived.Test.YthphphlbedlicaaGreatDoorFPH
import Derived.Test.YthphphlbedlicaaGreatDoorFPJ
set_option linter.unusedSimpArgs false
set_option linter.unusedVariables false
set_option maxRecDepth 10000
namespace Go.Proofs.YthphphlbedlicaaGreatDoor
open Go.RowKit
set_option maxHeartbeats 32000000 in
theorem qp9 (x y:Lv) (u:List UInt8) (hx:usB x.us) (hy:usB y.us) (hxl:x.us.length≤140737488351232) (hyl:y.us.length≤140737488351232):PC (ja0 Tryz.prog) 119 [lvD x,lvD y,strD u] (iD (chgE x y u)):=by
 have c1:=kv3 x hx
 have c2:=kv3 y hy
 rcases kp1 x with h1|h1
 ·rw [h1] at c1
  rcases kp1 y with h2|h2
  ·rw [h2] at c2
   have ko:=jp4 x u hxl
   have k6:PC (ja0 Tryz.prog) 140 [lvD x] (arD x):=qj7 x
   have k7:PC (ja0 Tryz.prog) 140 [lvD y] (arD y):=qj7 y
   have hX:=and_true;refine pcx Tryz.func119 rfl Tryz.ntmps119 Tryz.results119 rfl ?_;intro w0 A
   have hX:=And.intro jc9 (and_true)
   have hK:=And.intro (c1) (And.intro (c2) (And.intro (ko) trivial));refine rgx [3,4,5,6,11] ?_
   refine rggx [3,4,5,6,11,20] ?_
   refine iffs ?_
   refine rgx [3,4,5,6,7,11] ?_
   (repeat refine ja2 ?_);refine vl5 (lA:=[(3,.ptr 0 0),(4,.ptr 1 0),(5,.ptr 2 0),(6,.ptr 3 0),(7,.ptr 4 0),(8,.ptr 5 0),(9,.ptr 6 0),(11,.dead)]) (hA:=[some (.one (lvD x)),some (.one (lvD y)),some (.one (strD u)),some (.one (iD 0)),some (.one (iD (ofL x u))),some (.one (arD x)),some (.one (arD y))]) (lB:=[(3,.ptr 0 0),(4,.ptr 1 0),(5,.ptr 2 0),(6,.ptr 3 0),(7,.ptr 4 0),(8,.ptr 6 0),(9,.ptr 5 0),(11,.dead)]) (hB:=[some (.one (lvD x)),some (.one (lvD y)),some (.one (strD u)),some (.one (iD 0)),some (.one (iD (ofL x u))),some (.one (arD y)),some (.one (arD x))]) [3,4,5,6,7,8,9,11] (mkP [4,5,6,7] [none,none,none,none] [.ptr 5 0,.ptr 6 0,.dead,.dead] [(lvD x),(arD x),(lvD y),(arD y),.dead,.dead,.dead,.dead] [[some (.one (lvD x)),some (.one (lvD y)),some (.one (strD u)),some (.one (iD 0)),some (.one (iD (ofL x u)))],[some (.one (lvD x)),some (.one (lvD y)),some (.one (strD u)),some (.one (iD 0)),some (.one (iD (ofL x u))),some (.one (.arr .i64 6 (fun _=>0)))],[some (.one (lvD x)),some (.one (lvD y)),some (.one (strD u)),some (.one (iD 0)),some (.one (iD (ofL x u))),some (.one (.arr .i64 6 (fun _=>0))),some (.one (.arr .i64 6 (fun _=>0)))],[some (.one (lvD x)),some (.one (lvD y)),some (.one (strD u)),some (.one (iD 0)),some (.one (iD (ofL x u))),some (.one (arD x)),some (.one (.arr .i64 6 (fun _=>0)))],[some (.one (lvD x)),some (.one (lvD y)),some (.one (strD u)),some (.one (iD 0)),some (.one (iD (ofL x u))),some (.one (arD x)),some (.one (arD y))]] (look [(3,.ptr 0 0),(4,.ptr 1 0),(5,.ptr 2 0),(6,.ptr 3 0),(7,.ptr 4 0),(11,.dead)])) (mkP [5,4,6,7] [none,none,none,none] [.ptr 5 0,.ptr 6 0,.dead,.dead] [(lvD x),(arD x),(lvD y),(arD y),.dead,.dead,.dead,.dead] [[some (.one (lvD x)),some (.one (lvD y)),some (.one (strD u)),some (.one (iD 0)),some (.one (iD (ofL x u)))],[some (.one (lvD x)),some (.one (lvD y)),some (.one (strD u)),some (.one (iD 0)),some (.one (iD (ofL x u))),some (.one (.arr .i64 6 (fun _=>0)))],[some (.one (lvD x)),some (.one (lvD y)),some (.one (strD u)),some (.one (iD 0)),some (.one (iD (ofL x u))),some (.one (.arr .i64 6 (fun _=>0))),some (.one (.arr .i64 6 (fun _=>0)))],[some (.one (lvD x)),some (.one (lvD y)),some (.one (strD u)),some (.one (iD 0)),some (.one (iD (ofL x u))),some (.one (.arr .i64 6 (fun _=>0))),some (.one (arD x))],[some (.one (lvD x)),some (.one (lvD y)),some (.one (strD u)),some (.one (iD 0)),some (.one (iD (ofL x u))),some (.one (arD y)),some (.one (arD x))]] (look [(3,.ptr 0 0),(4,.ptr 1 0),(5,.ptr 2 0),(6,.ptr 3 0),(7,.ptr 4 0),(11,.dead)])) ?_ ?_ rfl rfl (by kernel_rfl) (fun _ _=>rfl) rfl (by kernel_rfl) rfl (by kernel_rfl) (by kernel_rfl) (by kernel_rfl) (by kernel_rfl) (by kernel_rfl) ?_ ?_
   ·intro w0 A S0 f0
    refine qd9 [(0,0),(0,1),(0,2),(1,0),(1,1),(1,2),(2,0),(2,1),(2,2),(2,3),(3,0),(3,1),(3,2),(3,3)] (by kernel_rfl) ?_ (lt4 ?_ ?_ ?_ ?_)
    ·refine ⟨?_,?_,?_,?_,?_,?_,?_,?_,?_,?_,?_,?_,?_,?_,trivial⟩
     ·exact qk1 [.ptr 0 0] [some (.one (lvD x)),some (.one (lvD y)),some (.one (strD u)),some (.one (iD 0)),some (.one (iD (ofL x u)))] (lvD x) rfl rfl
     ·exact qk1 [.ptr 0 0] [some (.one (lvD x)),some (.one (lvD y)),some (.one (strD u)),some (.one (iD 0)),some (.one (iD (ofL x u))),some (.one (.arr .i64 6 (fun _=>0)))] (lvD x) rfl rfl
     ·exact qk1 [.ptr 0 0] [some (.one (lvD x)),some (.one (lvD y)),some (.one (strD u)),some (.one (iD 0)),some (.one (iD (ofL x u))),some (.one (.arr .i64 6 (fun _=>0))),some (.one (.arr .i64 6 (fun _=>0)))] (lvD x) rfl rfl
     ·exact qokP [.fn 140 .nil,(lvD x)] [some (.one (lvD x)),some (.one (lvD y)),some (.one (strD u)),some (.one (iD 0)),some (.one (iD (ofL x u)))] (arD x) rfl (by kernel_rfl) (by kernel_rfl) (by kernel_rfl) rfl (jf8 (envG _ _ _ _ _ _) rfl rfl rfl (k6))
     ·exact qokP [.fn 140 .nil,(lvD x)] [some (.one (lvD x)),some (.one (lvD y)),some (.one (strD u)),some (.one (iD 0)),some (.one (iD (ofL x u))),some (.one (.arr .i64 6 (fun _=>0)))] (arD x) rfl (by kernel_rfl) (by kernel_rfl) (by kernel_rfl) rfl (jf8 (envG _ _ _ _ _ _) rfl rfl rfl (k6))
     ·exact qokP [.fn 140 .nil,(lvD x)] [some (.one (lvD x)),some (.one (lvD y)),some (.one (strD u)),some (.one (iD 0)),some (.one (iD (ofL x u))),some (.one (.arr .i64 6 (fun _=>0))),some (.one (.arr .i64 6 (fun _=>0)))] (arD x) rfl (by kernel_rfl) (by kernel_rfl) (by kernel_rfl) rfl (jf8 (envG _ _ _ _ _ _) rfl rfl rfl (k6))
     ·exact qk1 [.ptr 1 0] [some (.one (lvD x)),some (.one (lvD y)),some (.one (strD u)),some (.one (iD 0)),some (.one (iD (ofL x u)))] (lvD y) rfl rfl
     ·exact qk1 [.ptr 1 0] [some (.one (lvD x)),some (.one (lvD y)),some (.one (strD u)),some (.one (iD 0)),some (.one (iD (ofL x u))),some (.one (.arr .i64 6 (fun _=>0)))] (lvD y) rfl rfl
     ·exact qk1 [.ptr 1 0] [some (.one (lvD x)),some (.one (lvD y)),some (.one (strD u)),some (.one (iD 0)),some (.one (iD (ofL x u))),some (.one (.arr .i64 6 (fun _=>0))),some (.one (.arr .i64 6 (fun _=>0)))] (lvD y) rfl rfl
     ·exact qk1 [.ptr 1 0] [some (.one (lvD x)),some (.one (lvD y)),some (.one (strD u)),some (.one (iD 0)),some (.one (iD (ofL x u))),some (.one (arD x)),some (.one (.arr .i64 6 (fun _=>0)))] (lvD y) rfl rfl
     ·exact qokP [.fn 140 .nil,(lvD y)] [some (.one (lvD x)),some (.one (lvD y)),some (.one (strD u)),some (.one (iD 0)),some (.one (iD (ofL x u)))] (arD y) rfl (by kernel_rfl) (by kernel_rfl) (by kernel_rfl) rfl (jf8 (envG _ _ _ _ _ _) rfl rfl rfl (k7))
     ·exact qokP [.fn 140 .nil,(lvD y)] [some (.one (lvD x)),some (.one (lvD y)),some (.one (strD u)),some (.one (iD 0)),some (.one (iD (ofL x u))),some (.one (.arr .i64 6 (fun _=>0)))] (arD y) rfl (by kernel_rfl) (by kernel_rfl) (by kernel_rfl) rfl (jf8 (envG _ _ _ _ _ _) rfl rfl rfl (k7))
     ·exact qokP [.fn 140 .nil,(lvD y)] [some (.one (lvD x)),some (.one (lvD y)),some (.one (strD u)),some (.one (iD 0)),some (.one (iD (ofL x u))),some (.one (.arr .i64 6 (fun _=>0))),some (.one (.arr .i64 6 (fun _=>0)))] (arD y) rfl (by kernel_rfl) (by kernel_rfl) (by kernel_rfl) rfl (jf8 (envG _ _ _ _ _ _) rfl rfl rfl (k7))
     ·exact qokP [.fn 140 .nil,(lvD y)] [some (.one (lvD x)),some (.one (lvD y)),some (.one (strD u)),some (.one (iD 0)),some (.one (iD (ofL x u))),some (.one (arD x)),some (.one (.arr .i64 6 (fun _=>0)))] (arD y) rfl (by kernel_rfl) (by kernel_rfl) (by kernel_rfl) rfl (jf8 (envG _ _ _ _ _ _) rfl rfl rfl (k7))
    ·exact ealo 4 [some (.one (lvD x)),some (.one (lvD y)),some (.one (strD u)),some (.one (iD 0)),some (.one (iD (ofL x u)))] [some (.one (lvD x)),some (.one (lvD y)),some (.one (strD u)),some (.one (iD 0)),some (.one (iD (ofL x u))),some (.one (.arr .i64 6 (fun _=>0)))] rfl rfl rfl rfl rfl
    ·exact ealo 5 [some (.one (lvD x)),some (.one (lvD y)),some (.one (strD u)),some (.one (iD 0)),some (.one (iD (ofL x u))),some (.one (.arr .i64 6 (fun _=>0)))] [some (.one (lvD x)),some (.one (lvD y)),some (.one (strD u)),some (.one (iD 0)),some (.one (iD (ofL x u))),some (.one (.arr .i64 6 (fun _=>0))),some (.one (.arr .i64 6 (fun _=>0)))] rfl rfl rfl rfl rfl
    ·exact es1 6 (.ptr 5 0) (arD x) [some (.one (lvD x)),some (.one (lvD y)),some (.one (strD u)),some (.one (iD 0)),some (.one (iD (ofL x u))),some (.one (.arr .i64 6 (fun _=>0))),some (.one (.arr .i64 6 (fun _=>0)))] [some (.one (lvD x)),some (.one (lvD y)),some (.one (strD u)),some (.one (iD 0)),some (.one (iD (ofL x u))),some (.one (arD x)),some (.one (.arr .i64 6 (fun _=>0)))] rfl rfl rfl rfl
    ·exact es1 7 (.ptr 6 0) (arD y) [some (.one (lvD x)),some (.one (lvD y)),some (.one (strD u)),some (.one (iD 0)),some (.one (iD (ofL x u))),some (.one (arD x)),some (.one (.arr .i64 6 (fun _=>0)))] [some (.one (lvD x)),some (.one (lvD y)),some (.one (strD u)),some (.one (iD 0)),some (.one (iD (ofL x u))),some (.one (arD x)),some (.one (arD y))] rfl rfl rfl rfl
   ·intro w0 A S0 f0
    refine qd9 [(0,0),(0,1),(0,2),(1,0),(1,1),(1,2),(2,0),(2,1),(2,2),(2,3),(3,0),(3,1),(3,2),(3,3)] (by kernel_rfl) ?_ (lt4 ?_ ?_ ?_ ?_)
    ·refine ⟨?_,?_,?_,?_,?_,?_,?_,?_,?_,?_,?_,?_,?_,?_,trivial⟩
     ·exact qk1 [.ptr 0 0] [some (.one (lvD x)),some (.one (lvD y)),some (.one (strD u)),some (.one (iD 0)),some (.one (iD (ofL x u)))] (lvD x) rfl rfl
     ·exact qk1 [.ptr 0 0] [some (.one (lvD x)),some (.one (lvD y)),some (.one (strD u)),some (.one (iD 0)),some (.one (iD (ofL x u))),some (.one (.arr .i64 6 (fun _=>0)))] (lvD x) rfl rfl
     ·exact qk1 [.ptr 0 0] [some (.one (lvD x)),some (.one (lvD y)),some (.one (strD u)),some (.one (iD 0)),some (.one (iD (ofL x u))),some (.one (.arr .i64 6 (fun _=>0))),some (.one (.arr .i64 6 (fun _=>0)))] (lvD x) rfl rfl
     ·exact qokP [.fn 140 .nil,(lvD x)] [some (.one (lvD x)),some (.one (lvD y)),some (.one (strD u)),some (.one (iD 0)),some (.one (iD (ofL x u)))] (arD x) rfl (by kernel_rfl) (by kernel_rfl) (by kernel_rfl) rfl (jf8 (envG _ _ _ _ _ _) rfl rfl rfl (k6))
     ·exact qokP [.fn 140 .nil,(lvD x)] [some (.one (lvD x)),some (.one (lvD y)),some (.one (strD u)),some (.one (iD 0)),some (.one (iD (ofL x u))),some (.one (.arr .i64 6 (fun _=>0)))] (arD x) rfl (by kernel_rfl) (by kernel_rfl) (by kernel_rfl) rfl (jf8 (envG _ _ _ _ _ _) rfl rfl rfl (k6))
     ·exact qokP [.fn 140 .nil,(lvD x)] [some (.one (lvD x)),some (.one (lvD y)),some (.one (strD u)),some (.one (iD 0)),some (.one (iD (ofL x u))),some (.one (.arr .i64 6 (fun _=>0))),some (.one (.arr .i64 6 (fun _=>0)))] (arD x) rfl (by kernel_rfl) (by kernel_rfl) (by kernel_rfl) rfl (jf8 (envG _ _ _ _ _ _) rfl rfl rfl (k6))
     ·exact qk1 [.ptr 1 0] [some (.one (lvD x)),some (.one (lvD y)),some (.one (strD u)),some (.one (iD 0)),some (.one (iD (ofL x u)))] (lvD y) rfl rfl
     ·exact qk1 [.ptr 1 0] [some (.one (lvD x)),some (.one (lvD y)),some (.one (strD u)),some (.one (iD 0)),some (.one (iD (ofL x u))),some (.one (.arr .i64 6 (fun _=>0)))] (lvD y) rfl rfl
     ·exact qk1 [.ptr 1 0] [some (.one (lvD x)),some (.one (lvD y)),some (.one (strD u)),some (.one (iD 0)),some (.one (iD (ofL x u))),some (.one (.arr .i64 6 (fun _=>0))),some (.one (.arr .i64 6 (fun _=>0)))] (lvD y) rfl rfl
     ·exact qk1 [.ptr 1 0] [some (.one (lvD x)),some (.one (lvD y)),some (.one (strD u)),some (.one (iD 0)),some (.one (iD (ofL x u))),some (.one (.arr .i64 6 (fun _=>0))),some (.one (arD x))] (lvD y) rfl rfl
     ·exact qokP [.fn 140 .nil,(lvD y)] [some (.one (lvD x)),some (.one (lvD y)),some (.one (strD u)),some (.one (iD 0)),some (.one (iD (ofL x u)))] (arD y) rfl (by kernel_rfl) (by kernel_rfl) (by kernel_rfl) rfl (jf8 (envG _ _ _ _ _ _) rfl rfl rfl (k7))
     ·exact qokP [.fn 140 .nil,(lvD y)] [some (.one (lvD x)),some (.one (lvD y)),some (.one (strD u)),some (.one (iD 0)),some (.one (iD (ofL x u))),some (.one (.arr .i64 6 (fun _=>0)))] (arD y) rfl (by kernel_rfl) (by kernel_rfl) (by kernel_rfl) rfl (jf8 (envG _ _ _ _ _ _) rfl rfl rfl (k7))
     ·exact qokP [.fn 140 .nil,(lvD y)] [some (.one (lvD x)),some (.one (lvD y)),some (.one (strD u)),some (.one (iD 0)),some (.one (iD (ofL x u))),some (.one (.arr .i64 6 (fun _=>0))),some (.one (.arr .i64 6 (fun _=>0)))] (arD y) rfl (by kernel_rfl) (by kernel_rfl) (by kernel_rfl) rfl (jf8 (envG _ _ _ _ _ _) rfl rfl rfl (k7))
     ·exact qokP [.fn 140 .nil,(lvD y)] [some (.one (lvD x)),some (.one (lvD y)),some (.one (strD u)),some (.one (iD 0)),some (.one (iD (ofL x u))),some (.one (.arr .i64 6 (fun _=>0))),some (.one (arD x))] (arD y) rfl (by kernel_rfl) (by kernel_rfl) (by kernel_rfl) rfl (jf8 (envG _ _ _ _ _ _) rfl rfl rfl (k7))
    ·exact ealo 5 [some (.one (lvD x)),some (.one (lvD y)),some (.one (strD u)),some (.one (iD 0)),some (.one (iD (ofL x u)))] [some (.one (lvD x)),some (.one (lvD y)),some (.one (strD u)),some (.one (iD 0)),some (.one (iD (ofL x u))),some (.one (.arr .i64 6 (fun _=>0)))] rfl rfl rfl rfl rfl
    ·exact ealo 4 [some (.one (lvD x)),some (.one (lvD y)),some (.one (strD u)),some (.one (iD 0)),some (.one (iD (ofL x u))),some (.one (.arr .i64 6 (fun _=>0)))] [some (.one (lvD x)),some (.one (lvD y)),some (.one (strD u)),some (.one (iD 0)),some (.one (iD (ofL x u))),some (.one (.arr .i64 6 (fun _=>0))),some (.one (.arr .i64 6 (fun _=>0)))] rfl rfl rfl rfl rfl
    ·exact es1 6 (.ptr 6 0) (arD x) [some (.one (lvD x)),some (.one (lvD y)),some (.one (strD u)),some (.one (iD 0)),some (.one (iD (ofL x u))),some (.one (.arr .i64 6 (fun _=>0))),some (.one (.arr .i64 6 (fun _=>0)))] [some (.one (lvD x)),some (.one (lvD y)),some (.one (strD u)),some (.one (iD 0)),some (.one (iD (ofL x u))),some (.one (.arr .i64 6 (fun _=>0))),some (.one (arD x))] rfl rfl rfl rfl
    ·exact es1 7 (.ptr 5 0) (arD y) [some (.one (lvD x)),some (.one (lvD y)),some (.one (strD u)),some (.one (iD 0)),some (.one (iD (ofL x u))),some (.one (.arr .i64 6 (fun _=>0))),some (.one (arD x))] [some (.one (lvD x)),some (.one (lvD y)),some (.one (strD u)),some (.one (iD 0)),some (.one (iD (ofL x u))),some (.one (arD y)),some (.one (arD x))] rfl rfl rfl rfl
   ·skip
    have hX:=And.intro jk8 (and_true)
    refine rgx [3,4,5,6,7,8,9,11,28] ?_
    (repeat refine ja2 ?_);refine jb2 ?_
    (repeat refine ja2 ?_)
    refine jc4 (fun m _ st=>∃k,k+m=6∧(∀j,j<k→bad6 x y (ofL x u) j=false)∧st=mk [(3,.ptr 0 0),(4,.ptr 1 0),(5,.ptr 2 0),(6,.ptr 3 0),(7,.ptr 4 0),(8,.ptr 5 0),(9,.ptr 6 0),(11,.dead),(28,iD (k:Int))] [some (.one (lvD x)),some (.one (lvD y)),some (.one (strD u)),some (.one (iD 0)),some (.one (iD (ofL x u))),some (.one (arD x)),some (.one (arD y))]) 6 ⟨_,WeakX.refl _,0,by omega,fun j hj=>absurd hj (Nat.not_lt_zero _),rfl⟩ ?_
    rintro m _ _ ⟨k,hk,hI,rfl⟩
    have hX:=And.intro jk8 (and_true)
    refine rgx [3,4,5,6,7,8,9,11,28,29] ?_
    refine ifx ?_ ?_
    ·intro hc;(try simp only [hcs,ne_eq] at hc)
     have hkn:k<6:=by omega
     by_cases he:(sixL x).getD k 0=(sixL y).getD k 0
     ·have f1:decide ((sixL x).getD k 0=(sixL y).getD k 0)=true:=decide_eq_true he
      have hX:=And.intro jk8 (f1)
      refine ja6 ?_
      refine regX [3,4,5,6,7,8,9,10,11,28] ?_;intro w0 A S0 f0;(repeat ((with_reducible show DR _ _ _ (_::_) _);first|(refine cx _ (envG _ _ _ _ _ _) rfl rfl rfl rfl rfl ?_ (hc:=by first|fail))  | (refine sx ?_)));refine ja1 ?_;refine kl1 ?_
      (repeat refine ja2 ?_);refine je7 [3,4,5,6,7,8,9,11,28,48] (by kernel_rfl) ?_;intro w0 A S0 f0;(repeat (first|(refine gtxq rfl rfl ?_)|(refine gxq ?_)|((with_reducible show DRq _ _ _ (_::_) _);first|(refine cxq _ (envG _ _ _ _ _ _) rfl rfl rfl rfl rfl ?_ (hc:=by first|fail))| (refine kc1 _ rfl rfl rfl rfl ?_)|(refine sxq ?_))));refine jd2 ?_;refine kl1 ?_
      refine iffs ?_
      refine regX [3,4,5,6,7,8,9,11,28] ?_;intro w0 A S0 f0;(repeat ((with_reducible show DR _ _ _ (_::_) _);first|(refine cx _ (envG _ _ _ _ _ _) rfl rfl rfl rfl rfl ?_ (hc:=by first|fail))  | (refine sx ?_)));refine ja1 ?_;refine kl1 ?_
      exact ⟨_,m-1,WeakX.refl _,by omega,k+1,by omega,jt5 hI (kb0 he),rfl⟩
     ·have f1:decide ((sixL x).getD k 0=(sixL y).getD k 0)=false:=decide_eq_false he
      cases hb:decide (ofL x u<mxI ((sixL x).getD k 0) ((sixL y).getD k 0))
      ·have hbb:bad6 x y (ofL x u) k=false:=by rw [jm8 he,kb1,hb]
       have hX:=And.intro jk8 (And.intro f1 (hb))
       refine ja6 ?_
       refine regX [3,4,5,6,7,8,9,10,11,28] ?_;intro w0 A S0 f0;(repeat ((with_reducible show DR _ _ _ (_::_) _);first|(refine cx _ (envG _ _ _ _ _ _) rfl rfl rfl rfl rfl ?_ (hc:=by first|fail))  | (refine sx ?_)));refine ja1 ?_;refine kl1 ?_
       (repeat refine ja2 ?_);refine je7 [3,4,5,6,7,8,9,11,28,48] (by kernel_rfl) ?_;intro w0 A S0 f0;(repeat (first|(refine gtxq rfl rfl ?_)|(refine gxq ?_)|((with_reducible show DRq _ _ _ (_::_) _);first|(refine cxq _ (envG _ _ _ _ _ _) rfl rfl rfl rfl rfl ?_ (hc:=by first|fail))| (refine kc1 _ rfl rfl rfl rfl ?_)|(refine sxq ?_))));refine jd2 ?_;refine kl1 ?_
       refine iffs ?_
       refine regX [3,4,5,6,7,8,9,11,28] ?_;intro w0 A S0 f0;(repeat ((with_reducible show DR _ _ _ (_::_) _);first|(refine cx _ (envG _ _ _ _ _ _) rfl rfl rfl rfl rfl ?_ (hc:=by first|fail))  | (refine sx ?_)));refine ja1 ?_;refine kl1 ?_
       exact ⟨_,m-1,WeakX.refl _,by omega,k+1,by omega,jt5 hI hbb,rfl⟩
      ·rw [kb5 h1 h2 hkn (by rw [jm8 he,kb1,hb])]
       have hX:=And.intro jk8 (And.intro f1 (hb))
       refine ja6 ?_
       refine regX [3,4,5,6,7,8,9,10,11,28] ?_;intro w0 A S0 f0;(repeat ((with_reducible show DR _ _ _ (_::_) _);first|(refine cx _ (envG _ _ _ _ _ _) rfl rfl rfl rfl rfl ?_ (hc:=by first|fail))  | (refine sx ?_)));refine ja1 ?_;refine kl1 ?_
       (repeat refine ja2 ?_);refine je7 [3,4,5,6,7,8,9,11,28,48] (by kernel_rfl) ?_;intro w0 A S0 f0;(repeat (first|(refine gtxq rfl rfl ?_)|(refine gxq ?_)|((with_reducible show DRq _ _ _ (_::_) _);first|(refine cxq _ (envG _ _ _ _ _ _) rfl rfl rfl rfl rfl ?_ (hc:=by first|fail))| (refine kc1 _ rfl rfl rfl rfl ?_)|(refine sxq ?_))));refine jd2 ?_;refine kl1 ?_
       refine iftx ?_
       refine regX [6] ?_;intro w0 A S0 f0;(repeat ((with_reducible show DR _ _ _ (_::_) _);first|(refine cx _ (envG _ _ _ _ _ _) rfl rfl rfl rfl rfl ?_ (hc:=by first|fail))  | (refine sx ?_)));refine ja1 ?_;refine kl1 ?_
       exact retF
    ·intro hc;(try simp only [hcs,ne_eq] at hc)
     obtain rfl:k=6:=by omega
     rw [kj8 h1 h2 hI]
     have hkc:=km5 x y
     have hX:=And.intro and_true (and_true)
     refine jc8 ?_
     have hK:=And.intro (hkc) trivial;refine rgx [3,4,5,6,7,11,52] ?_
     (repeat refine ja2 ?_);refine jb2 ?_
     (repeat refine ja2 ?_)
     refine jy1 (items:=(chgL x y).map itF) [0,1,2,3,4,5,6] [3,4,5,6,7] (fun pre=>if ((chgL x y).take pre.length).any (badV x y u)=false then [some (.one (lvD x)),some (.one (lvD y)),some (.one (strD u)),some (.one (iD 0)),some (.one (iD (ofL x u))),some (.one (arD x)),some (.one (arD y))] else [some (.one (.ptr 7 0))])
      (fun e h'=>e = .ret∧(chgL x y).any (badV x y u)=true∧∃tl,h'=some (.one (lvD x))::some (.one (lvD y))::some (.one (strD u))::some (.one (iD 12))::tl)
      (kr5 x y hxl hyl) (by kernel_rfl) rfl (fun _ _ _ _=>rfl) rfl rfl rfl rfl rfl (fun v hv=>?_) (fun M L pre v hv=>?_) ?_ ?_
     ·obtain ⟨z,_,rfl⟩:=List.mem_map.1 hv
      rfl
     ·obtain ⟨hj,rfl,hpre⟩:=ku0 [] hv
      by_cases hg:((chgL x y).take pre.length).any (badV x y u)=false
      ·rw [if_pos hg]
       clear hv hpre
       generalize hp:pre.length=j at *
       have hpl:(pre++[itF ((chgL x y).getD j [])]).length=j+1:=by rw [List.length_append,hp];rfl
       have hgo:=qm7 hj hg
       have hmem:(chgL x y).getD j [] ∈ chgL x y:=by rw [List.getD_eq_getElem?_getD,List.getElem?_eq_getElem hj,Option.getD_some];exact List.getElem_mem hj
       generalize (chgL x y).getD j []=v at *
       have hbad:=fun h:badV x y u v=true=>List.any_eq_true.2 ⟨v,hmem,h⟩
       have kx:=jp4 x v hxl
       have ky:=jp4 y v hyl
       have hend:badV x y u v=false→([some (.one (lvD x)),some (.one (lvD y)),some (.one (strD u)),some (.one (iD 0)),some (.one (iD (ofL x u))),some (.one (arD x)),some (.one (arD y))]:List (Option Bk))=(if ((chgL x y).take (pre++[itF v]).length).any (badV x y u)=false then [some (.one (lvD x)),some (.one (lvD y)),some (.one (strD u)),some (.one (iD 0)),some (.one (iD (ofL x u))),some (.one (arD x)),some (.one (arD y))] else [some (.one (.ptr 7 0))]):=fun h=>by rw [hpl,if_pos (by rw [hgo,h])]
       refine ji5 [3,4,5,6,7,53] ?_
       have hX:=And.intro and_true (and_true)
       refine rgx [3,4,5,6,7,11] ?_
       intro M2
       by_cases c1:ofL x u<ofL x v
       ·have f1:decide (ofL x u<ofL x v)=true:=decide_eq_true c1
        have hX:=And.intro jc9 (f1)
        have hK:=And.intro (kx) (And.intro (ky) trivial);refine rgx [4,5,6,7,11,12] ?_
        refine rqgx [6,76] ?_
        refine iftx ?_
        refine rgx [6] ?_
        refine jh4 ?_
        exact .inr ⟨.inl rfl,rfl,hbad (kp0 c1),_,rfl⟩
       ·have f1:decide (ofL x u<ofL x v)=false:=decide_eq_false c1
        by_cases c2:ofL x v=ofL x u
        ·have f2:decide (ofL x v=ofL x u)=true:=decide_eq_true c2
         cases c3:decide (ofL x u<ofL y v)
         ·have hd:=fun h=>jr6 (y:=y) c1 h c3
          have hX:=And.intro jc9 (And.intro f1 (And.intro f2 (c3)))
          have hK:=And.intro (kx) (And.intro (ky) trivial);refine rgx [4,5,6,7,11,12] ?_
          (repeat refine ja2 ?_);refine je7 [6,76] (by kernel_rfl) ?_;intro w0 A S0 f0;(repeat (first|(refine gtxq rfl rfl ?_)|(refine gxq ?_)|((with_reducible show DRq _ _ _ (_::_) _);first|(refine cxq _ (envG _ _ _ _ _ _) rfl rfl rfl rfl rfl ?_ (hc:=by first|exact kx|exact ky))| fail|(refine sxq ?_))));refine gsxq rfl rfl rfl rfl ?_ ?_
          ·intro hc
           have hvu:=jg2 hc
           (repeat (first|(refine gtxq rfl rfl ?_)|(refine gxq ?_)|((with_reducible show DRq _ _ _ (_::_) _);first|(refine cxq _ (envG _ _ _ _ _ _) rfl rfl rfl rfl rfl ?_ (hc:=by first|exact kx|exact ky))| fail|(refine sxq ?_))));refine jd2 ?_;refine kl1 ?_
           refine iffs ?_
           exact .inl ⟨rfl,_,WeakX.refl _,hend (hd hvu)⟩
          ·intro hc
           have hvu:=jg6 hc
           (repeat (first|(refine gtxq rfl rfl ?_)|(refine gxq ?_)|((with_reducible show DRq _ _ _ (_::_) _);first|(refine cxq _ (envG _ _ _ _ _ _) rfl rfl rfl rfl rfl ?_ (hc:=by first|exact kx|exact ky))| fail|(refine sxq ?_))));refine jd2 ?_;refine kl1 ?_
           refine iftx ?_
           refine rgx [6] ?_
           refine jh4 ?_
           exact .inr ⟨.inl rfl,rfl,hbad (jr5 c2 hvu),_,rfl⟩
         ·have hd:=fun h=>jr6 (y:=y) c1 h c3
          have hX:=And.intro jc9 (And.intro f1 (And.intro f2 (c3)))
          have hK:=And.intro (kx) (And.intro (ky) trivial);refine rgx [4,5,6,7,11,12] ?_
          (repeat refine ja2 ?_);refine je7 [6,76] (by kernel_rfl) ?_;intro w0 A S0 f0;(repeat (first|(refine gtxq rfl rfl ?_)|(refine gxq ?_)|((with_reducible show DRq _ _ _ (_::_) _);first|(refine cxq _ (envG _ _ _ _ _ _) rfl rfl rfl rfl rfl ?_ (hc:=by first|exact kx|exact ky))| fail|(refine sxq ?_))));refine gsxq rfl rfl rfl rfl ?_ ?_
          ·intro hc
           have hvu:=jg2 hc
           (repeat (first|(refine gtxq rfl rfl ?_)|(refine gxq ?_)|((with_reducible show DRq _ _ _ (_::_) _);first|(refine cxq _ (envG _ _ _ _ _ _) rfl rfl rfl rfl rfl ?_ (hc:=by first|exact kx|exact ky))| fail|(refine sxq ?_))));refine jd2 ?_;refine kl1 ?_
           refine iftx ?_
           refine rgx [6] ?_
           refine jh4 ?_
           exact .inr ⟨.inl rfl,rfl,hbad (hd hvu),_,rfl⟩
          ·intro hc
           have hvu:=jg6 hc
           (repeat (first|(refine gtxq rfl rfl ?_)|(refine gxq ?_)|((with_reducible show DRq _ _ _ (_::_) _);first|(refine cxq _ (envG _ _ _ _ _ _) rfl rfl rfl rfl rfl ?_ (hc:=by first|exact kx|exact ky))| fail|(refine sxq ?_))));refine jd2 ?_;refine kl1 ?_
           refine iftx ?_
           refine rgx [6] ?_
           refine jh4 ?_
           exact .inr ⟨.inl rfl,rfl,hbad (jr5 c2 hvu),_,rfl⟩
        ·have f2:decide (ofL x v=ofL x u)=false:=decide_eq_false c2
         cases c3:decide (ofL x u<ofL y v)
         ·have hd:=jr4 (y:=y) c1 c2 c3
          have hX:=And.intro jc9 (And.intro f1 (And.intro f2 (c3)))
          have hK:=And.intro (kx) (And.intro (ky) trivial);refine rgx [4,5,6,7,11,12] ?_
          refine rqgx [6,76] ?_
          refine iffs ?_
          exact .inl ⟨rfl,_,WeakX.refl _,hend hd⟩
         ·have hd:=jr4 (y:=y) c1 c2 c3
          have hX:=And.intro jc9 (And.intro f1 (And.intro f2 (c3)))
          have hK:=And.intro (kx) (And.intro (ky) trivial);refine rgx [4,5,6,7,11,12] ?_
          refine rqgx [6,76] ?_
          refine iftx ?_
          refine rgx [6] ?_
          refine jh4 ?_
          exact .inr ⟨.inl rfl,rfl,hbad hd,_,rfl⟩
      ·rw [if_neg hg]
       exact kd7
     ·rw [List.length_map,List.take_length]
      by_cases hg:(chgL x y).any (badV x y u)=false
      ·rw [if_pos hg,if_neg (by rw [hg];decide)]
       have hX:=And.intro and_true (and_true)
       refine rgx [6] ?_
       exact retF
      ·rw [if_neg hg]
       exact kj2
     ·rintro e h' ⟨rfl,hb,tl,rfl⟩
      rw [if_pos hb]
      refine retx ?_;(try dsimp only [outV,ja5])
      exact jd0 rfl
   ·skip
    have hX:=And.intro jk8 (and_true)
    refine rgx [3,4,5,6,7,8,9,11,28] ?_
    (repeat refine ja2 ?_);refine jb2 ?_
    (repeat refine ja2 ?_)
    refine jc4 (fun m _ st=>∃k,k+m=6∧(∀j,j<k→bad6 x y (ofL x u) j=false)∧st=mk [(3,.ptr 0 0),(4,.ptr 1 0),(5,.ptr 2 0),(6,.ptr 3 0),(7,.ptr 4 0),(8,.ptr 6 0),(9,.ptr 5 0),(11,.dead),(28,iD (k:Int))] [some (.one (lvD x)),some (.one (lvD y)),some (.one (strD u)),some (.one (iD 0)),some (.one (iD (ofL x u))),some (.one (arD y)),some (.one (arD x))]) 6 ⟨_,WeakX.refl _,0,by omega,fun j hj=>absurd hj (Nat.not_lt_zero _),rfl⟩ ?_
    rintro m _ _ ⟨k,hk,hI,rfl⟩
    have hX:=And.intro jk8 (and_true)
    refine rgx [3,4,5,6,7,8,9,11,28,29] ?_
    refine ifx ?_ ?_
    ·intro hc;(try simp only [hcs,ne_eq] at hc)
     have hkn:k<6:=by omega
     by_cases he:(sixL x).getD k 0=(sixL y).getD k 0
     ·have f1:decide ((sixL x).getD k 0=(sixL y).getD k 0)=true:=decide_eq_true he
      have hX:=And.intro jk8 (f1)
      refine ja6 ?_
      refine regX [3,4,5,6,7,8,9,10,11,28] ?_;intro w0 A S0 f0;(repeat ((with_reducible show DR _ _ _ (_::_) _);first|(refine cx _ (envG _ _ _ _ _ _) rfl rfl rfl rfl rfl ?_ (hc:=by first|fail))  | (refine sx ?_)));refine ja1 ?_;refine kl1 ?_
      (repeat refine ja2 ?_);refine je7 [3,4,5,6,7,8,9,11,28,48] (by kernel_rfl) ?_;intro w0 A S0 f0;(repeat (first|(refine gtxq rfl rfl ?_)|(refine gxq ?_)|((with_reducible show DRq _ _ _ (_::_) _);first|(refine cxq _ (envG _ _ _ _ _ _) rfl rfl rfl rfl rfl ?_ (hc:=by first|fail))| (refine kc1 _ rfl rfl rfl rfl ?_)|(refine sxq ?_))));refine jd2 ?_;refine kl1 ?_
      refine iffs ?_
      refine regX [3,4,5,6,7,8,9,11,28] ?_;intro w0 A S0 f0;(repeat ((with_reducible show DR _ _ _ (_::_) _);first|(refine cx _ (envG _ _ _ _ _ _) rfl rfl rfl rfl rfl ?_ (hc:=by first|fail))  | (refine sx ?_)));refine ja1 ?_;refine kl1 ?_
      exact ⟨_,m-1,WeakX.refl _,by omega,k+1,by omega,jt5 hI (kb0 he),rfl⟩
     ·have f1:decide ((sixL x).getD k 0=(sixL y).getD k 0)=false:=decide_eq_false he
      cases hb:decide (ofL x u<mxI ((sixL x).getD k 0) ((sixL y).getD k 0))
      ·have hbb:bad6 x y (ofL x u) k=false:=by rw [jm8 he,kb1,hb]
       have hX:=And.intro jk8 (And.intro f1 (hb))
       refine ja6 ?_
       refine regX [3,4,5,6,7,8,9,10,11,28] ?_;intro w0 A S0 f0;(repeat ((with_reducible show DR _ _ _ (_::_) _);first|(refine cx _ (envG _ _ _ _ _ _) rfl rfl rfl rfl rfl ?_ (hc:=by first|fail))  | (refine sx ?_)));refine ja1 ?_;refine kl1 ?_
       (repeat refine ja2 ?_);refine je7 [3,4,5,6,7,8,9,11,28,48] (by kernel_rfl) ?_;intro w0 A S0 f0;(repeat (first|(refine gtxq rfl rfl ?_)|(refine gxq ?_)|((with_reducible show DRq _ _ _ (_::_) _);first|(refine cxq _ (envG _ _ _ _ _ _) rfl rfl rfl rfl rfl ?_ (hc:=by first|fail))| (refine kc1 _ rfl rfl rfl rfl ?_)|(refine sxq ?_))));refine jd2 ?_;refine kl1 ?_
       refine iffs ?_
       refine regX [3,4,5,6,7,8,9,11,28] ?_;intro w0 A S0 f0;(repeat ((with_reducible show DR _ _ _ (_::_) _);first|(refine cx _ (envG _ _ _ _ _ _) rfl rfl rfl rfl rfl ?_ (hc:=by first|fail))  | (refine sx ?_)));refine ja1 ?_;refine kl1 ?_
       exact ⟨_,m-1,WeakX.refl _,by omega,k+1,by omega,jt5 hI hbb,rfl⟩
      ·rw [kb5 h1 h2 hkn (by rw [jm8 he,kb1,hb])]
       have hX:=And.intro jk8 (And.intro f1 (hb))
       refine ja6 ?_
       refine regX [3,4,5,6,7,8,9,10,11,28] ?_;intro w0 A S0 f0;(repeat ((with_reducible show DR _ _ _ (_::_) _);first|(refine cx _ (envG _ _ _ _ _ _) rfl rfl rfl rfl rfl ?_ (hc:=by first|fail))  | (refine sx ?_)));refine ja1 ?_;refine kl1 ?_
       (repeat refine ja2 ?_);refine je7 [3,4,5,6,7,8,9,11,28,48] (by kernel_rfl) ?_;intro w0 A S0 f0;(repeat (first|(refine gtxq rfl rfl ?_)|(refine gxq ?_)|((with_reducible show DRq _ _ _ (_::_) _);first|(refine cxq _ (envG _ _ _ _ _ _) rfl rfl rfl rfl rfl ?_ (hc:=by first|fail))| (refine kc1 _ rfl rfl rfl rfl ?_)|(refine sxq ?_))));refine jd2 ?_;refine kl1 ?_
       refine iftx ?_
       refine regX [6] ?_;intro w0 A S0 f0;(repeat ((with_reducible show DR _ _ _ (_::_) _);first|(refine cx _ (envG _ _ _ _ _ _) rfl rfl rfl rfl rfl ?_ (hc:=by first|fail))  | (refine sx ?_)));refine ja1 ?_;refine kl1 ?_
       exact retF
    ·intro hc;(try simp only [hcs,ne_eq] at hc)
     obtain rfl:k=6:=by omega
     rw [kj8 h1 h2 hI]
     have hkc:=km5 x y
     have hX:=And.intro and_true (and_true)
     refine jc8 ?_
     have hK:=And.intro (hkc) trivial;refine rgx [3,4,5,6,7,11,52] ?_
     (repeat refine ja2 ?_);refine jb2 ?_
     (repeat refine ja2 ?_)
     refine jy1 (items:=(chgL x y).map itF) [0,1,2,3,4,5,6] [3,4,5,6,7] (fun pre=>if ((chgL x y).take pre.length).any (badV x y u)=false then [some (.one (lvD x)),some (.one (lvD y)),some (.one (strD u)),some (.one (iD 0)),some (.one (iD (ofL x u))),some (.one (arD y)),some (.one (arD x))] else [some (.one (.ptr 7 0))])
      (fun e h'=>e = .ret∧(chgL x y).any (badV x y u)=true∧∃tl,h'=some (.one (lvD x))::some (.one (lvD y))::some (.one (strD u))::some (.one (iD 12))::tl)
      (kr5 x y hxl hyl) (by kernel_rfl) rfl (fun _ _ _ _=>rfl) rfl rfl rfl rfl rfl (fun v hv=>?_) (fun M L pre v hv=>?_) ?_ ?_
     ·obtain ⟨z,_,rfl⟩:=List.mem_map.1 hv
      rfl
     ·obtain ⟨hj,rfl,hpre⟩:=ku0 [] hv
      by_cases hg:((chgL x y).take pre.length).any (badV x y u)=false
      ·rw [if_pos hg]
       clear hv hpre
       generalize hp:pre.length=j at *
       have hpl:(pre++[itF ((chgL x y).getD j [])]).length=j+1:=by rw [List.length_append,hp];rfl
       have hgo:=qm7 hj hg
       have hmem:(chgL x y).getD j [] ∈ chgL x y:=by rw [List.getD_eq_getElem?_getD,List.getElem?_eq_getElem hj,Option.getD_some];exact List.getElem_mem hj
       generalize (chgL x y).getD j []=v at *
       have hbad:=fun h:badV x y u v=true=>List.any_eq_true.2 ⟨v,hmem,h⟩
       have kx:=jp4 x v hxl
       have ky:=jp4 y v hyl
       have hend:badV x y u v=false→([some (.one (lvD x)),some (.one (lvD y)),some (.one (strD u)),some (.one (iD 0)),some (.one (iD (ofL x u))),some (.one (arD y)),some (.one (arD x))]:List (Option Bk))=(if ((chgL x y).take (pre++[itF v]).length).any (badV x y u)=false then [some (.one (lvD x)),some (.one (lvD y)),some (.one (strD u)),some (.one (iD 0)),some (.one (iD (ofL x u))),some (.one (arD y)),some (.one (arD x))] else [some (.one (.ptr 7 0))]):=fun h=>by rw [hpl,if_pos (by rw [hgo,h])]
       refine ji5 [3,4,5,6,7,53] ?_
       have hX:=And.intro and_true (and_true)
       refine rgx [3,4,5,6,7,11] ?_
       intro M2
       by_cases c1:ofL x u<ofL x v
       ·have f1:decide (ofL x u<ofL x v)=true:=decide_eq_true c1
        have hX:=And.intro jc9 (f1)
        have hK:=And.intro (kx) (And.intro (ky) trivial);refine rgx [4,5,6,7,11,12] ?_
        refine rqgx [6,76] ?_
        refine iftx ?_
        refine rgx [6] ?_
        refine jh4 ?_
        exact .inr ⟨.inl rfl,rfl,hbad (kp0 c1),_,rfl⟩
       ·have f1:decide (ofL x u<ofL x v)=false:=decide_eq_false c1
        by_cases c2:ofL x v=ofL x u
        ·have f2:decide (ofL x v=ofL x u)=true:=decide_eq_true c2
         cases c3:decide (ofL x u<ofL y v)
         ·have hd:=fun h=>jr6 (y:=y) c1 h c3
          have hX:=And.intro jc9 (And.intro f1 (And.intro f2 (c3)))
          have hK:=And.intro (kx) (And.intro (ky) trivial);refine rgx [4,5,6,7,11,12] ?_
          (repeat refine ja2 ?_);refine je7 [6,76] (by kernel_rfl) ?_;intro w0 A S0 f0;(repeat (first|(refine gtxq rfl rfl ?_)|(refine gxq ?_)|((with_reducible show DRq _ _ _ (_::_) _);first|(refine cxq _ (envG _ _ _ _ _ _) rfl rfl rfl rfl rfl ?_ (hc:=by first|exact kx|exact ky))| fail|(refine sxq ?_))));refine gsxq rfl rfl rfl rfl ?_ ?_
          ·intro hc
           have hvu:=jg2 hc
           (repeat (first|(refine gtxq rfl rfl ?_)|(refine gxq ?_)|((with_reducible show DRq _ _ _ (_::_) _);first|(refine cxq _ (envG _ _ _ _ _ _) rfl rfl rfl rfl rfl ?_ (hc:=by first|exact kx|exact ky))| fail|(refine sxq ?_))));refine jd2 ?_;refine kl1 ?_
           refine iffs ?_
           exact .inl ⟨rfl,_,WeakX.refl _,hend (hd hvu)⟩
          ·intro hc
           have hvu:=jg6 hc
           (repeat (first|(refine gtxq rfl rfl ?_)|(refine gxq ?_)|((with_reducible show DRq _ _ _ (_::_) _);first|(refine cxq _ (envG _ _ _ _ _ _) rfl rfl rfl rfl rfl ?_ (hc:=by first|exact kx|exact ky))| fail|(refine sxq ?_))));refine jd2 ?_;refine kl1 ?_
           refine iftx ?_
           refine rgx [6] ?_
           refine jh4 ?_
           exact .inr ⟨.inl rfl,rfl,hbad (jr5 c2 hvu),_,rfl⟩
         ·have hd:=fun h=>jr6 (y:=y) c1 h c3
          have hX:=And.intro jc9 (And.intro f1 (And.intro f2 (c3)))
          have hK:=And.intro (kx) (And.intro (ky) trivial);refine rgx [4,5,6,7,11,12] ?_
          (repeat refine ja2 ?_);refine je7 [6,76] (by kernel_rfl) ?_;intro w0 A S0 f0;(repeat (first|(refine gtxq rfl rfl ?_)|(refine gxq ?_)|((with_reducible show DRq _ _ _ (_::_) _);first|(refine cxq _ (envG _ _ _ _ _ _) rfl rfl rfl rfl rfl ?_ (hc:=by first|exact kx|exact ky))| fail|(refine sxq ?_))));refine gsxq rfl rfl rfl rfl ?_ ?_
          ·intro hc
           have hvu:=jg2 hc
           (repeat (first|(refine gtxq rfl rfl ?_)|(refine gxq ?_)|((with_reducible show DRq _ _ _ (_::_) _);first|(refine cxq _ (envG _ _ _ _ _ _) rfl rfl rfl rfl rfl ?_ (hc:=by first|exact kx|exact ky))| fail|(refine sxq ?_))));refine jd2 ?_;refine kl1 ?_
           refine iftx ?_
           refine rgx [6] ?_
           refine jh4 ?_
           exact .inr ⟨.inl rfl,rfl,hbad (hd hvu),_,rfl⟩
          ·intro hc
           have hvu:=jg6 hc
           (repeat (first|(refine gtxq rfl rfl ?_)|(refine gxq ?_)|((with_reducible show DRq _ _ _ (_::_) _);first|(refine cxq _ (envG _ _ _ _ _ _) rfl rfl rfl rfl rfl ?_ (hc:=by first|exact kx|exact ky))| fail|(refine sxq ?_))));refine jd2 ?_;refine kl1 ?_
           refine iftx ?_
           refine rgx [6] ?_
           refine jh4 ?_
           exact .inr ⟨.inl rfl,rfl,hbad (jr5 c2 hvu),_,rfl⟩
        ·have f2:decide (ofL x v=ofL x u)=false:=decide_eq_false c2
         cases c3:decide (ofL x u<ofL y v)
         ·have hd:=jr4 (y:=y) c1 c2 c3
          have hX:=And.intro jc9 (And.intro f1 (And.intro f2 (c3)))
          have hK:=And.intro (kx) (And.intro (ky) trivial);refine rgx [4,5,6,7,11,12] ?_
          refine rqgx [6,76] ?_
          refine iffs ?_
          exact .inl ⟨rfl,_,WeakX.refl _,hend hd⟩
         ·have hd:=jr4 (y:=y) c1 c2 c3
          have hX:=And.intro jc9 (And.intro f1 (And.intro f2 (c3)))
          have hK:=And.intro (kx) (And.intro (ky) trivial);refine rgx [4,5,6,7,11,12] ?_
          refine rqgx [6,76] ?_
          refine iftx ?_
          refine rgx [6] ?_
          refine jh4 ?_
          exact .inr ⟨.inl rfl,rfl,hbad hd,_,rfl⟩
      ·rw [if_neg hg]
       exact kd7
     ·rw [List.length_map,List.take_length]
      by_cases hg:(chgL x y).any (badV x y u)=false
      ·rw [if_pos hg,if_neg (by rw [hg];decide)]
       have hX:=And.intro and_true (and_true)
       refine rgx [6] ?_
       exact retF
      ·rw [if_neg hg]
       exact kj2
     ·rintro e h' ⟨rfl,hb,tl,rfl⟩
      rw [if_pos hb]
      refine retx ?_;(try dsimp only [outV,ja5])
      exact jd0 rfl
  ·rw [h2] at c2
   rw [kb4 (.inr (by rw [h2];decide))]
   have hX:=and_true;refine pcx Tryz.func119 rfl Tryz.ntmps119 Tryz.results119 rfl ?_;intro w0 A
   have hX:=And.intro jb1 (and_true)
   have hK:=And.intro (c1) (And.intro (c2) trivial);refine rgx [3,4,5,6,11] ?_
   refine rggx [3,4,5,6,11,20] ?_
   refine iftx ?_
   refine rgx [6] ?_
   exact retF
 ·rw [h1] at c1
  rw [kb4 (.inl (by rw [h1];decide))]
  have hX:=and_true;refine pcx Tryz.func119 rfl Tryz.ntmps119 Tryz.results119 rfl ?_;intro w0 A
  have hX:=And.intro jb1 (and_true)
  have hK:=And.intro (c1) trivial;refine rgx [3,4,5,6,11] ?_
  refine rggx [3,4,5,6,11,20] ?_
  refine iftx ?_
  refine rgx [6] ?_
  exact retF
end Go.Proofs.YthphphlbedlicaaGreatDoor
